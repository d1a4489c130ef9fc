/- The law DecEncloses (written by gen_decenc.py). -/
import Derived.Test.YtfklkphoplpebaaGreatDoorDecDr
import Derived.Test.YtfklkphoplpebaaGreatDoorDecBack
import Derived.Test.YtfklkphoplpebaaGreatDoorFixD
namespace Go.Proofs.YtfklkphoplpebaaGreatDoor
open Go Go.RowKit Dig

theorem idxT4 (a b c e : Int) (j : Nat) (h : j < 4) : ∃ m, (m = a ∨ m = b ∨ m = c ∨ m = e) ∧ ∀ w, (Instr.index 57 (.agg #[.int .i64 a, .int .i64 b, .int .i64 c, .int .i64 e]) (.int .i64 (j : Int))).run Tryz.prog w = .ok (.int .i64 m) w := by
  match j, h with
  | 0, _ => exact ⟨a, .inl rfl, fun _ => by kernel_rfl⟩
  | 1, _ => exact ⟨b, .inr (.inl rfl), fun _ => by kernel_rfl⟩
  | 2, _ => exact ⟨c, .inr (.inr (.inl rfl)), fun _ => by kernel_rfl⟩
  | 3, _ => exact ⟨e, .inr (.inr (.inr rfl)), fun _ => by kernel_rfl⟩
/-- A rounded number's size, and how far apart the two are. -/
theorem rnd_tight {v : Int} {d : Nat} {up : Bool} (hv : fixOk v) : (rndZ v d up).natAbs ≤ 1048576 * 10 ^ d := by
  have h1 : (v * ((10 ^ d : Nat) : Int)).natAbs ≤ 4503599627370496 * 10 ^ d := by
    rw [Int.natAbs_mul, Int.natAbs_natCast]
    exact Nat.mul_le_mul_right _ (by unfold fixOk at hv; omega)
  unfold rndZ
  generalize v * ((10 ^ d : Nat) : Int) = n at *
  split <;> omega
theorem rnd_apart (v : Int) (d : Nat) : rndZ v d true = rndZ v d false ∨ rndZ v d true = rndZ v d false + 1 := by
  unfold rndZ
  generalize v * ((10 ^ d : Nat) : Int) = n at *
  rw [if_pos rfl, if_neg (by decide)]
  omega
theorem rnd_below (v : Int) (d : Nat) : rndZ v d false * 4294967296 ≤ v * ((10 ^ d : Nat) : Int) := by
  unfold rndZ
  generalize v * ((10 ^ d : Nat) : Int) = n at *
  rw [if_neg (by decide)]
  omega
theorem rnd_above (v : Int) (d : Nat) : v * ((10 ^ d : Nat) : Int) ≤ rndZ v d true * 4294967296 := by
  unfold rndZ
  generalize v * ((10 ^ d : Nat) : Int) = n at *
  rw [if_pos rfl]
  omega
set_option linter.unusedVariables false in
set_option maxRecDepth 100000 in
set_option maxHeartbeats 4000000 in
theorem DecEncloses_any (w : World) (G : Glob w) (M : MaxL w) (T : Powers w) (v : Int) (hv0 : -9223372036854775808 ≤ v) (hv1 : v ≤ 9223372036854775807)
    (a b c : Int) (ha0 : -9223372036854775808 ≤ a) (ha1 : a ≤ 9223372036854775807) (hb0 : 0 ≤ b) (hb1 : b ≤ 255) (hc0 : 0 ≤ c) (hc1 : c ≤ 4294967295) (d : Int) (hd0 : -9223372036854775808 ≤ d) (hd1 : d ≤ 9223372036854775807) :
    Calls Tryz.prog 9 #[.int .i64 v, .agg #[.int .i64 a, .int .u8 b, .int .u32 c], .int .i64 d] w fun e w' => Below w.heap.size w w' ∧ e = .returned (.bool true) := by
  obtain ⟨D, hD, hD2⟩ := mod_small d (k := 13) (by decide) (by decide); have HDD := Lib.hid hD; clear hD
  have hDl : D ≤ 12 := by omega
  clear hD2
  obtain ⟨r, hr⟩ : ∃ r, v.tmod 4503599627370497 = r := ⟨_, rfl⟩
  have hrf : fixOk r := by have h := tmod_in (a := v) (Q := 4503599627370497) (by omega); rw [hr] at h; unfold fixOk; omega
  have HR := Lib.hid hr; have HRF := Lib.hid hrf; clear hr hrf
  obtain ⟨w0, hw0⟩ : ∃ w0 : World, w0 = (w.alloc (.cells #[.int .i64 a, .int .u8 b, .int .u32 c] 40)) := ⟨_, rfl⟩
  have B0 := Lib.hid (show Below w.heap.size w w0 by rw [hw0]; (repeat' (first | exact Below.refl _ _ | refine Below.drew ?_ | refine Below.alloc ?_ (by first | exact Nat.le_refl _ | (simp; done) | (simp; omega)) _)))
  have z0 : w.heap.size + 1 ≤ w0.heap.size := by rw [hw0]; simp
  have Lx : CB w0 (w.heap.size) 40 #[.int .i64 a, .int .u8 b, .int .u32 c] := by rw [hw0]; have h := CB.new w 40 #[.int .i64 a, .int .u8 b, .int .u32 c]; simpa using h
  go_enter Tryz.func9, Tryz.ntmps9
  go_upto_region 1 with (fail)
  rw [← hw0]; clear hw0
  go_wp2_with fail
  refine (worksD_any _ (G.step B0.out) (M.step B0.out)).mono ?_
  rintro e w1 ⟨hb1, rfl⟩
  have B2 := Lib.hid hb1
  have z2 := B2.out.size
  have HB3 := Lib.hid (B0.out.trans (B2.out.mono B0.out.size))
  clear hb1
  go_upto_region 4 with (fail)
  rw [HDD.out]
  clear ha0 ha1
  have Lx_5 := CB.step Lx B2.out
  have q6_0 := Lx_5.cell 0 rfl
  have q6_1 := Lx_5.cell 1 rfl
  have q6_2 := Lx_5.cell 2 rfl
  have q6_lt := Lx_5.lt
  go_wp2_with fail
  refine (DSpan_any _ a b c hb0 hb1 hc0 hc1).mono ?_
  rintro e w4 ⟨hb4, lo, hi, rfl, hlo, hhi⟩
  have B7 := Lib.hid hb4
  have z7 := B7.out.size
  have HB8 := Lib.hid (HB3.out.trans (B7.out.mono HB3.out.size))
  clear hb4
  clear q6_0 q6_1 q6_2 q6_lt
  have HLO := Lib.hid hlo; have HHI := Lib.hid hhi; clear hlo hhi
  go_upto_region 5 with (fail)
  obtain ⟨wv, hwv⟩ : ∃ x : World, x = w4.alloc (.cells #[.int .i64 lo, .int .i64 hi] 37) := ⟨_, rfl⟩; rw [← hwv]
  have hbv : Below w4.heap.size w4 wv := by rw [hwv]; exact below_alloc1 (Below.refl _ _) _
  have LS : CB wv w4.heap.size 37 #[.int .i64 lo, .int .i64 hi] := by rw [hwv]; exact CB.new _ _ _
  clear hwv
  have B9 := Lib.hid hbv
  have z9 := B9.out.size
  have HB10 := Lib.hid (HB8.out.trans (B9.out.mono HB8.out.size))
  clear hbv
  refine Flow.run [⟨0, 32, fun fv fw => fv = .int .i64 v⟩, ⟨1, 33, fun fv fw => fv = .int .i64 r⟩, ⟨2, 34, fun fv fw => fv = .pointer (some ⟨w4.heap.size, 0, none⟩)⟩, ⟨3, 35, fun fv fw => fv = .int .i64 lo⟩, ⟨4, 36, fun fv fw => fv = .pointer (some ⟨w4.heap.size, 1, none⟩)⟩, ⟨5, 37, fun fv fw => fv = .int .i64 hi⟩, ⟨6, 38, fun fv fw => fv = .agg #[.int .i64 a, .int .u8 b, .int .u32 c]⟩, ⟨7, 39, fun fv fw => ∃ l h : Int, fv = .agg #[.int .i64 l, .int .i64 h] ∧ fixOk l⟩, ⟨8, 40, fun fv fw => ∃ l : Int, fv = .int .i64 l ∧ fixOk l⟩, ⟨9, 41, fun fv fw => ∃ l : Int, fv = .agg #[.int .i64 r, .int .i64 lo, .int .i64 hi, .int .i64 l] ∧ fixOk l⟩, ⟨10, 42, fun fv fw => fv = .int .i64 0⟩] [] [] 0 (by kernel_rfl) (by kernel_rfl) (by kernel_rfl) (fun _ _ _ _ _ h => h) ?_ ?_ ?_ ?_
  · refine (all_cons (fun v w1 w2 h hb => h) (all_cons (fun v w1 w2 h hb => h) (all_cons (fun v w1 w2 h hb => h) (all_cons (fun v w1 w2 h hb => h) (all_cons (fun v w1 w2 h hb => h) (all_cons (fun v w1 w2 h hb => h) (all_cons (fun v w1 w2 h hb => h) (all_cons (fun v w1 w2 h hb => h) (all_cons (fun v w1 w2 h hb => h) (all_cons (fun v w1 w2 h hb => h) (all_cons (fun v w1 w2 h hb => h) all_nil)))))))))))
  · refine (all_cons ?_ (all_cons ?_ (all_cons ?_ (all_cons ?_ (all_cons ?_ (all_cons ?_ (all_cons ?_ (all_cons ?_ (all_cons ?_ (all_cons ?_ (all_cons ?_ all_nil)))))))))))
    · intro xs wk11 hBk hdep
      have HBk11 := Lib.hid hBk; have zk11 := hBk.size; clear hBk
      clear hdep
      refine wpOp_step (o := _) rfl (fun K hK => ?_)
      simp only [fpairs, List.cons_append, List.nil_append, List.map_cons, List.map_nil, putAll, Act.put, List.setIfInBounds_toArray, List.set_cons_zero, List.set_cons_succ]
      go_simp
      refine hK _ _ ⟨.int .i64 v, by kernel_rfl, Below.refl _ _, rfl, fun h => absurd (show false = true from h) Bool.false_ne_true⟩
    · intro xs wk12 hBk hdep
      have HBk12 := Lib.hid hBk; have zk12 := hBk.size; clear hBk
      have f0 : (xs 0) = .int .i64 v := hdep _ (List.mem_of_getElem? (i := 0) rfl) (by kernel_rfl)
      clear hdep
      refine wpOp_step (o := _) rfl (fun K hK => ?_)
      simp only [fpairs, List.cons_append, List.nil_append, List.map_cons, List.map_nil, putAll, Act.put, List.setIfInBounds_toArray, List.set_cons_zero, List.set_cons_succ]
      go_simp
      rw [HR.out]
      refine hK _ _ ⟨.int .i64 r, by simp only [fpairs, List.cons_append, List.nil_append, List.map_cons, List.map_nil, putAll, Act.put, List.setIfInBounds_toArray, List.set_cons_zero, List.set_cons_succ, f0], Below.refl _ _, rfl, fun h => absurd (show false = true from h) Bool.false_ne_true⟩
    · intro xs wk13 hBk hdep
      have HBk13 := Lib.hid hBk; have zk13 := hBk.size; clear hBk
      clear hdep
      refine wpOp_step (o := _) rfl (fun K hK => ?_)
      simp only [fpairs, List.cons_append, List.nil_append, List.map_cons, List.map_nil, putAll, Act.put, List.setIfInBounds_toArray, List.set_cons_zero, List.set_cons_succ]
      go_simp
      refine hK _ _ ⟨.pointer (some ⟨w4.heap.size, 0, none⟩), by kernel_rfl, Below.refl _ _, rfl, fun h => absurd (show false = true from h) Bool.false_ne_true⟩
    · intro xs wk14 hBk hdep
      have HBk14 := Lib.hid hBk; have zk14 := hBk.size; clear hBk
      have f2 : (xs 2) = .pointer (some ⟨w4.heap.size, 0, none⟩) := hdep _ (List.mem_of_getElem? (i := 2) rfl) (by kernel_rfl)
      clear hdep
      refine wpOp_step (o := _) rfl (fun K hK => ?_)
      simp only [fpairs, List.cons_append, List.nil_append, List.map_cons, List.map_nil, putAll, Act.put, List.setIfInBounds_toArray, List.set_cons_zero, List.set_cons_succ]
      have Ls_15 := CB.step LS HBk14.out
      have q16_0 := Ls_15.cell 0 rfl
      have q16_1 := Ls_15.cell 1 rfl
      have q16_lt := Ls_15.lt
      go_simp
      refine hK _ _ ⟨.int .i64 lo, by simp only [fpairs, List.cons_append, List.nil_append, List.map_cons, List.map_nil, putAll, Act.put, List.setIfInBounds_toArray, List.set_cons_zero, List.set_cons_succ, f2], Below.refl _ _, rfl, fun h => absurd (show false = true from h) Bool.false_ne_true⟩
    · intro xs wk17 hBk hdep
      have HBk17 := Lib.hid hBk; have zk17 := hBk.size; clear hBk
      clear hdep
      refine wpOp_step (o := _) rfl (fun K hK => ?_)
      simp only [fpairs, List.cons_append, List.nil_append, List.map_cons, List.map_nil, putAll, Act.put, List.setIfInBounds_toArray, List.set_cons_zero, List.set_cons_succ]
      go_simp
      refine hK _ _ ⟨.pointer (some ⟨w4.heap.size, 1, none⟩), by kernel_rfl, Below.refl _ _, rfl, fun h => absurd (show false = true from h) Bool.false_ne_true⟩
    · intro xs wk18 hBk hdep
      have HBk18 := Lib.hid hBk; have zk18 := hBk.size; clear hBk
      have f4 : (xs 4) = .pointer (some ⟨w4.heap.size, 1, none⟩) := hdep _ (List.mem_of_getElem? (i := 4) rfl) (by kernel_rfl)
      clear hdep
      refine wpOp_step (o := _) rfl (fun K hK => ?_)
      simp only [fpairs, List.cons_append, List.nil_append, List.map_cons, List.map_nil, putAll, Act.put, List.setIfInBounds_toArray, List.set_cons_zero, List.set_cons_succ]
      have Ls_19 := CB.step LS HBk18.out
      have q20_0 := Ls_19.cell 0 rfl
      have q20_1 := Ls_19.cell 1 rfl
      have q20_lt := Ls_19.lt
      go_simp
      refine hK _ _ ⟨.int .i64 hi, by simp only [fpairs, List.cons_append, List.nil_append, List.map_cons, List.map_nil, putAll, Act.put, List.setIfInBounds_toArray, List.set_cons_zero, List.set_cons_succ, f4], Below.refl _ _, rfl, fun h => absurd (show false = true from h) Bool.false_ne_true⟩
    · intro xs wk21 hBk hdep
      have HBk21 := Lib.hid hBk; have zk21 := hBk.size; clear hBk
      clear hdep
      refine wpOp_step (o := _) rfl (fun K hK => ?_)
      simp only [fpairs, List.cons_append, List.nil_append, List.map_cons, List.map_nil, putAll, Act.put, List.setIfInBounds_toArray, List.set_cons_zero, List.set_cons_succ]
      have P2_4_23 := Lib.hid (B7.out.trans (B9.out.mono B7.out.size))
      have P2_5_24 := Lib.hid (P2_4_23.out.trans (HBk21.out.mono P2_4_23.out.size))
      have Lx_22 := CB.step Lx_5 P2_5_24.out
      have q25_0 := Lx_22.cell 0 rfl
      have q25_1 := Lx_22.cell 1 rfl
      have q25_2 := Lx_22.cell 2 rfl
      have q25_lt := Lx_22.lt
      go_simp
      refine hK _ _ ⟨.agg #[.int .i64 a, .int .u8 b, .int .u32 c], by kernel_rfl, Below.refl _ _, rfl, fun h => absurd (show false = true from h) Bool.false_ne_true⟩
    · intro xs wk26 hBk hdep
      have HBk26 := Lib.hid hBk; have zk26 := hBk.size; clear hBk
      have f6 : (xs 6) = .agg #[.int .i64 a, .int .u8 b, .int .u32 c] := hdep _ (List.mem_of_getElem? (i := 6) rfl) (by kernel_rfl)
      clear hdep
      refine wpOp_step (o := _) rfl (fun K hK => ?_)
      simp only [fpairs, List.cons_append, List.nil_append, List.map_cons, List.map_nil, putAll, Act.put, List.setIfInBounds_toArray, List.set_cons_zero, List.set_cons_succ]
      go_simp
      (with_reducible refine (DSmall_any _ a b c hb0 hb1).mono ?_)
      rintro e wc27 ⟨hb27, l27, h27, rfl, hf27⟩
      refine hK _ _ ⟨.agg #[.int .i64 l27, .int .i64 h27], by simp only [fpairs, List.cons_append, List.nil_append, List.map_cons, List.map_nil, putAll, Act.put, List.setIfInBounds_toArray, List.set_cons_zero, List.set_cons_succ, f6], hb27, ⟨l27, h27, rfl, hf27⟩, fun h => absurd (show false = true from h) Bool.false_ne_true⟩
    · intro xs wk28 hBk hdep
      have HBk28 := Lib.hid hBk; have zk28 := hBk.size; clear hBk
      have f7 : ∃ l h : Int, (xs 7) = .agg #[.int .i64 l, .int .i64 h] ∧ fixOk l := hdep _ (List.mem_of_getElem? (i := 7) rfl) (by kernel_rfl)
      clear hdep
      refine wpOp_step (o := _) rfl (fun K hK => ?_)
      simp only [fpairs, List.cons_append, List.nil_append, List.map_cons, List.map_nil, putAll, Act.put, List.setIfInBounds_toArray, List.set_cons_zero, List.set_cons_succ]
      obtain ⟨l, h, hu, hl⟩ := f7; rw [hu]
      go_simp
      refine hK _ _ ⟨.int .i64 l, by simp only [fpairs, List.cons_append, List.nil_append, List.map_cons, List.map_nil, putAll, Act.put, List.setIfInBounds_toArray, List.set_cons_zero, List.set_cons_succ, hu]; rfl, Below.refl _ _, ⟨l, rfl, hl⟩, fun h => absurd (show false = true from h) Bool.false_ne_true⟩
    · intro xs wk29 hBk hdep
      have HBk29 := Lib.hid hBk; have zk29 := hBk.size; clear hBk
      have f1 : (xs 1) = .int .i64 r := hdep _ (List.mem_of_getElem? (i := 1) rfl) (by kernel_rfl)
      have f3 : (xs 3) = .int .i64 lo := hdep _ (List.mem_of_getElem? (i := 3) rfl) (by kernel_rfl)
      have f5 : (xs 5) = .int .i64 hi := hdep _ (List.mem_of_getElem? (i := 5) rfl) (by kernel_rfl)
      have f8 : ∃ l : Int, (xs 8) = .int .i64 l ∧ fixOk l := hdep _ (List.mem_of_getElem? (i := 8) rfl) (by kernel_rfl)
      clear hdep
      refine wpOp_step (o := _) rfl (fun K hK => ?_)
      simp only [fpairs, List.cons_append, List.nil_append, List.map_cons, List.map_nil, putAll, Act.put, List.setIfInBounds_toArray, List.set_cons_zero, List.set_cons_succ]
      obtain ⟨l, hu, hl⟩ := f8; rw [hu]
      go_simp
      refine hK _ _ ⟨.agg #[.int .i64 r, .int .i64 lo, .int .i64 hi, .int .i64 l], by simp only [fpairs, List.cons_append, List.nil_append, List.map_cons, List.map_nil, putAll, Act.put, List.setIfInBounds_toArray, List.set_cons_zero, List.set_cons_succ, f1, f3, f5, hu], Below.refl _ _, ⟨l, rfl, hl⟩, fun h => absurd (show false = true from h) Bool.false_ne_true⟩
    · intro xs wk30 hBk hdep
      have HBk30 := Lib.hid hBk; have zk30 := hBk.size; clear hBk
      clear hdep
      refine wpOp_step (o := _) rfl (fun K hK => ?_)
      simp only [fpairs, List.cons_append, List.nil_append, List.map_cons, List.map_nil, putAll, Act.put, List.setIfInBounds_toArray, List.set_cons_zero, List.set_cons_succ]
      go_simp
      refine hK _ _ ⟨.int .i64 0, by kernel_rfl, Below.refl _ _, rfl, fun h => absurd (show false = true from h) Bool.false_ne_true⟩
  · exact all_nil
  · intro xs wf31 hbf hf hn hd
    have f0 : (xs 0) = .int .i64 v := hf _ (List.mem_of_getElem? (i := 0) rfl)
    have f1 : (xs 1) = .int .i64 r := hf _ (List.mem_of_getElem? (i := 1) rfl)
    have f2 : (xs 2) = .pointer (some ⟨w4.heap.size, 0, none⟩) := hf _ (List.mem_of_getElem? (i := 2) rfl)
    have f3 : (xs 3) = .int .i64 lo := hf _ (List.mem_of_getElem? (i := 3) rfl)
    have f4 : (xs 4) = .pointer (some ⟨w4.heap.size, 1, none⟩) := hf _ (List.mem_of_getElem? (i := 4) rfl)
    have f5 : (xs 5) = .int .i64 hi := hf _ (List.mem_of_getElem? (i := 5) rfl)
    have f6 : (xs 6) = .agg #[.int .i64 a, .int .u8 b, .int .u32 c] := hf _ (List.mem_of_getElem? (i := 6) rfl)
    have f7 : ∃ l h : Int, (xs 7) = .agg #[.int .i64 l, .int .i64 h] ∧ fixOk l := hf _ (List.mem_of_getElem? (i := 7) rfl)
    have f8 : ∃ l : Int, (xs 8) = .int .i64 l ∧ fixOk l := hf _ (List.mem_of_getElem? (i := 8) rfl)
    have f9 : ∃ l : Int, (xs 9) = .agg #[.int .i64 r, .int .i64 lo, .int .i64 hi, .int .i64 l] ∧ fixOk l := hf _ (List.mem_of_getElem? (i := 9) rfl)
    have f10 : (xs 10) = .int .i64 0 := hf _ (List.mem_of_getElem? (i := 10) rfl)
    clear hf hn hd
    simp only [fpairs, List.cons_append, List.nil_append, List.map_cons, List.map_nil, putAll, Act.put, List.setIfInBounds_toArray, List.set_cons_zero, List.set_cons_succ]
    have B32 := Lib.hid hbf
    have z32 := B32.out.size
    have HB33 := Lib.hid (HB10.out.trans (B32.out.mono HB10.out.size))
    clear hbf
    generalize xs 0 = x0 at *
    generalize xs 1 = x1 at *
    generalize xs 2 = x2 at *
    generalize xs 3 = x3 at *
    generalize xs 4 = x4 at *
    generalize xs 5 = x5 at *
    generalize xs 6 = x6 at *
    generalize xs 7 = x7 at *
    generalize xs 8 = x8 at *
    generalize xs 9 = x9 at *
    generalize xs 10 = x10 at *
    obtain rfl := f0
    obtain rfl := f1
    obtain rfl := f2
    obtain rfl := f3
    obtain rfl := f4
    obtain rfl := f5
    obtain rfl := f6
    clear f7
    clear f8
    obtain ⟨l, rfl, hl⟩ := f9; have HLL := Lib.hid hl; clear hl
    obtain rfl := f10
    refine Early.done (by kernel_rfl) ?_ _
    (try simp only [Exit.then])
    go_wp2
    go_loopw [42] (fun iv wr => ∃ o : Nat, o ≤ 4 ∧ iv = .int .i64 o ∧ Hid (Below w.heap.size w wr)) (fun iv _ => 4 - (intOf iv).toNat)
    case atStart => exact ⟨0, Nat.zero_le _, rfl, HB33⟩
    case round =>
      obtain ⟨o, hon, rfl, HBo⟩ := hrel
      obtain ⟨wo, hwo⟩ : ∃ x : World, x = wr := ⟨_, rfl⟩; subst hwo
      by_cases hlt : o < 4
      · skip
        have hlti : (o : Int) < 4 := by omega
        obtain ⟨m, hm, hidx⟩ := idxT4 r lo hi l o hlt
        have HM := Lib.hid (show fixOk m by rcases hm with h | h | h | h <;> rw [h] <;> first | exact HRF.out | exact HLO.out | exact HHI.out | exact HLL.out)
        clear hm
        obtain ⟨A, hA⟩ : ∃ A, A = rndZ m D false := ⟨_, rfl⟩; obtain ⟨B, hB⟩ : ∃ B, B = rndZ m D true := ⟨_, rfl⟩
        have hp12 := Nat.pow_le_pow_right (show 0 < 10 by omega) hDl
        have tA := rnd_tight (d := D) (up := false) HM.out; have tB := rnd_tight (d := D) (up := true) HM.out; rw [← hA] at tA; rw [← hB] at tB
        have hA0 : -9223372036854775808 ≤ A := by omega
        have hA1 : A < 9223372036854775807 := by omega
        have hB0 : -9223372036854775808 ≤ B := by omega
        have hB1 : B ≤ 9223372036854775807 := by omega
        have HTA := Lib.hid tA; have HTB := Lib.hid tB; clear tA tB hp12
        have HAB := Lib.hid (show A = B ∨ A + 1 = B by rw [hA, hB]; have := rnd_apart m D; omega)
        have HFA := Lib.hid (show fixedD m (D : Int) false = (decT A D, 0) by unfold fixedD; rw [if_pos ⟨HM.out, by omega, by omega⟩, Int.toNat_natCast, hA])
        have HFB := Lib.hid (show fixedD m (D : Int) true = (decT B D, 0) by unfold fixedD; rw [if_pos ⟨HM.out, by omega, by omega⟩, Int.toNat_natCast, hB])
        have HBB := Lib.hid (show bothD m m (D : Int) = ([91] ++ decT A D ++ [44, 32] ++ decT B D ++ [93], 0) by unfold bothD bothT; rw [if_pos (show spanOk m m from ⟨HM.out.1, Int.le_refl _, HM.out.2⟩), if_pos ⟨by omega, by omega⟩, Int.toNat_natCast, hA, hB])
        have HUP := Lib.hid (show decZ A D true ≤ m from decZ_up_le (by rw [hA]; exact rnd_below m D)); have HDN := Lib.hid (show m ≤ decZ B D false from le_decZ_down (by rw [hB]; exact rnd_above m D))
        clear hA hB
        go_wp2_with fail
        refine (DFixed_lit HFA.out (G.step HBo.out)).mono ?_
        rintro e w34 ⟨hb34, t1, rfl, ht1⟩
        have B35 := Lib.hid hb34
        have z35 := B35.out.size
        have HB36 := Lib.hid (HBo.out.trans (B35.out.mono HBo.out.size))
        clear hb34
        have HS1 := Lib.hid (text_small ht1 hA0 (by omega) (by omega)); have HT1 := Lib.hid ht1; clear ht1 hidx
        go_wp2_with fail
        refine (DFixed_lit HFB.out (G.step HB36.out)).mono ?_
        rintro e w37 ⟨hb37, t2, rfl, ht2⟩
        have B38 := Lib.hid hb37
        have z38 := B38.out.size
        have HB39 := Lib.hid (HB36.out.trans (B38.out.mono HB36.out.size))
        clear hb37
        have HS2 := Lib.hid (text_small ht2 hB0 hB1 (by omega)); have HT2 := Lib.hid ht2; clear ht2
        go_wp2_with fail
        refine (DParse_lit (s := t1) (d := (D : Int)) (n := A) (c := 0) (by rw [HT1.out]; exact parseD_text hA0 (by omega) (by omega)) (by have := HS1.out; omega) (by omega) (by omega) (G.step HB39.out) (M.step HB39.out)).mono ?_
        rintro e w40 ⟨hb40, rfl⟩
        have B41 := Lib.hid hb40
        have z41 := B41.out.size
        have HB42 := Lib.hid (HB39.out.trans (B41.out.mono HB39.out.size))
        clear hb40
        go_wp2_with fail
        refine (DParse_lit (s := t2) (d := (D : Int)) (n := B) (c := 0) (by rw [HT2.out]; exact parseD_text hB0 hB1 (by omega)) (by have := HS2.out; omega) (by omega) (by omega) (G.step HB42.out) (M.step HB42.out)).mono ?_
        rintro e w43 ⟨hb43, rfl⟩
        have B44 := Lib.hid hb43
        have z44 := B44.out.size
        have HB45 := Lib.hid (HB42.out.trans (B44.out.mono HB42.out.size))
        clear hb43
        rcases HAB.out with hab | hab
        · subst hab
          clear HAB
          go_upto_region 14 with (fail)
          go_wp2_with fail
          refine (FDec_any _ A D hDl hA0 (by omega) HTA.out (T.step HB45.out)).mono ?_
          rintro e w46 ⟨hb46, rfl⟩
          have B47 := Lib.hid hb46
          have z47 := B47.out.size
          have HB48 := Lib.hid (HB45.out.trans (B47.out.mono HB45.out.size))
          clear hb46
          go_wp2_with fail
          refine (FDec_any _ A D hDl hA0 (by omega) HTA.out (T.step HB48.out)).mono ?_
          rintro e w49 ⟨hb49, rfl⟩
          have B50 := Lib.hid hb49
          have z50 := B50.out.size
          have HB51 := Lib.hid (HB48.out.trans (B50.out.mono HB48.out.size))
          clear hb49
          have hup := Int.not_lt.2 HUP.out; have hdn := Int.not_lt.2 HDN.out
          go_upto_region 18 with (fail)
          clear hup hdn
          go_wp2_with fail
          refine (DBoth_lit HBB.out (G.step HB51.out)).mono ?_
          rintro e w52 ⟨hb52, t3, rfl, ht3⟩
          have B53 := Lib.hid hb52
          have z53 := B53.out.size
          have HB54 := Lib.hid (HB51.out.trans (B53.out.mono HB51.out.size))
          clear hb52
          have HT3 := Lib.hid ht3; clear ht3
          have e1 := HS1.out; have e2 := HS2.out
          have g1 : ¬ 9223372036854775807 < 1 + t1.size := by omega
          have g2 : ¬ 9223372036854775807 < 1 + t1.size + 2 := by omega
          have g3 : ¬ 9223372036854775807 < 1 + t1.size + 2 + t2.size := by omega
          have g4 : ¬ 9223372036854775807 < 1 + t1.size + 2 + t2.size + 1 := by omega
          have heq : (t3.toList == ((⟨#[91]⟩ : ByteArray) ++ t1 ++ ⟨#[44, 32]⟩ ++ t2 ++ ⟨#[93]⟩).toList) = true := by rw [beq_str, HT3.out]; simp [HT1.out, HT2.out]
          clear e1 e2
          go_wp2
          go_roundw
          case rel => exact ⟨o + 1, by omega, by go_num, Lib.hid HB54.out⟩
          case measure => simp [intOf]; omega
        · have hne : ¬ B = A := by omega
          clear HAB
          go_upto_region 14 with (fail)
          clear hab hne
          go_wp2_with fail
          refine (FDec_any _ A D hDl hA0 (by omega) HTA.out (T.step HB45.out)).mono ?_
          rintro e w55 ⟨hb55, rfl⟩
          have B56 := Lib.hid hb55
          have z56 := B56.out.size
          have HB57 := Lib.hid (HB45.out.trans (B56.out.mono HB45.out.size))
          clear hb55
          go_wp2_with fail
          refine (FDec_any _ B D hDl hB0 (by omega) HTB.out (T.step HB57.out)).mono ?_
          rintro e w58 ⟨hb58, rfl⟩
          have B59 := Lib.hid hb58
          have z59 := B59.out.size
          have HB60 := Lib.hid (HB57.out.trans (B59.out.mono HB57.out.size))
          clear hb58
          have hup := Int.not_lt.2 HUP.out; have hdn := Int.not_lt.2 HDN.out
          go_upto_region 18 with (fail)
          clear hup hdn
          go_wp2_with fail
          refine (DBoth_lit HBB.out (G.step HB60.out)).mono ?_
          rintro e w61 ⟨hb61, t3, rfl, ht3⟩
          have B62 := Lib.hid hb61
          have z62 := B62.out.size
          have HB63 := Lib.hid (HB60.out.trans (B62.out.mono HB60.out.size))
          clear hb61
          have HT3 := Lib.hid ht3; clear ht3
          have e1 := HS1.out; have e2 := HS2.out
          have g1 : ¬ 9223372036854775807 < 1 + t1.size := by omega
          have g2 : ¬ 9223372036854775807 < 1 + t1.size + 2 := by omega
          have g3 : ¬ 9223372036854775807 < 1 + t1.size + 2 + t2.size := by omega
          have g4 : ¬ 9223372036854775807 < 1 + t1.size + 2 + t2.size + 1 := by omega
          have heq : (t3.toList == ((⟨#[91]⟩ : ByteArray) ++ t1 ++ ⟨#[44, 32]⟩ ++ t2 ++ ⟨#[93]⟩).toList) = true := by rw [beq_str, HT3.out]; simp [HT1.out, HT2.out]
          clear e1 e2
          go_wp2
          go_roundw
          case rel => exact ⟨o + 1, by omega, by go_num, Lib.hid HB63.out⟩
          case measure => simp [intOf]; omega
      · obtain rfl : o = 4 := by omega
        go_wp2
        go_ret
        exact ⟨HBo.out, rfl⟩
end Go.Proofs.YtfklkphoplpebaaGreatDoor
