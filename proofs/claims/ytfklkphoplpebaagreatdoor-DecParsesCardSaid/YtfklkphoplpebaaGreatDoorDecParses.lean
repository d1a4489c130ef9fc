/- The law DecParses (written by gen_decparses.py). -/
import Derived.Test.YtfklkphoplpebaaGreatDoorDecBack
import Derived.Test.YtfklkphoplpebaaGreatDoorDecO
import Derived.Test.YtfklkphoplpebaaGreatDoorRParseD
namespace Go.Proofs.YtfklkphoplpebaaGreatDoor
open Go Go.RowKit Dig

theorem idxS6 (a b c d e f : ByteArray) {k : Nat} (ha : a.size ≤ k) (hb : b.size ≤ k) (hc : c.size ≤ k) (hd : d.size ≤ k) (he : e.size ≤ k) (hf : f.size ≤ k) (j : Nat) (h : j < 6) :
    ∃ m : ByteArray, m.size ≤ k ∧ ∀ w, (Instr.index 32 (.agg #[.string a, .string b, .string c, .string d, .string e, .string f]) (.int .i64 (j : Int))).run Tryz.prog w = .ok (.string m) w := by
  match j, h with
  | 0, _ => exact ⟨a, ha, fun _ => by kernel_rfl⟩
  | 1, _ => exact ⟨b, hb, fun _ => by kernel_rfl⟩
  | 2, _ => exact ⟨c, hc, fun _ => by kernel_rfl⟩
  | 3, _ => exact ⟨d, hd, fun _ => by kernel_rfl⟩
  | 4, _ => exact ⟨e, he, fun _ => by kernel_rfl⟩
  | 5, _ => exact ⟨f, hf, fun _ => by kernel_rfl⟩
set_option linter.unusedVariables false in
set_option maxRecDepth 100000 in
set_option maxHeartbeats 4000000 in
theorem DecParses_any (w : World) (G : Glob w) (M : MaxL w) (s0 : ByteArray) (hs0 : s0.size ≤ maxLen) (n : Int) (hn0 : -9223372036854775808 ≤ n) (hn1 : n ≤ 9223372036854775807) (d : Int) (hd0 : -9223372036854775808 ≤ d) (hd1 : d ≤ 9223372036854775807) (at_ : Int) (ha0 : 0 ≤ at_) (ha1 : at_ ≤ 255) (c_ : Int) (hc0 : 0 ≤ c_) (hc1 : c_ ≤ 255) :
    Calls Tryz.prog 4 #[.string s0, .int .i64 n, .int .i64 d, .int .u8 at_, .int .u8 c_] w fun e w' => Below w.heap.size w w' ∧ e = .returned (.bool true) := by
  obtain ⟨D, hD, hD2⟩ := mod_small d (k := 19) (by decide) (by decide); have HDD := Lib.hid hD; clear hD
  have hDl : D ≤ 18 := by omega
  clear hD2
  obtain ⟨cc, rfl⟩ : ∃ cc : UInt8, c_ = (cc.toNat : Int) := ⟨UInt8.ofNat c_.toNat, by rw [UInt8.toNat_ofNat']; omega⟩
  unfold maxLen at hs0
  have hmn3 : 0 ≤ min (↑s0.size) (60 : Int) := by omega
  have hmn4 : min (↑s0.size) (60 : Int) ≤ ↑s0.size := by omega
  go_enter Tryz.func4, Tryz.ntmps4
  go_wp2_with fail
  refine (worksD_any _ G M).mono ?_
  rintro e w1 ⟨hb1, rfl⟩
  have B2 := Lib.hid hb1
  have z2 := B2.out.size
  clear hb1
  go_upto_region 4 with (fail)
  clear hmn3 hmn4
  generalize hS : s0.extract 0 _ = S
  have hSs : S.size ≤ 60 := by rw [← hS, ByteArray.size_extract]; omega
  clear hS
  go_wp2_with fail
  rw [HDD.out]
  refine (RTextD_any _ n (D : Int) hn0 hn1 (by omega) (by omega)).mono ?_
  rintro e w3 ⟨hb3, told, rfl, htold⟩
  have B4 := Lib.hid hb3
  have z4 := B4.out.size
  have HB5 := Lib.hid (B2.out.trans (B4.out.mono B2.out.size))
  clear hb3
  have hts : told.size ≤ 48 := by rw [Lib.size_eq, htold, textD_nat n hDl]; exact text_short hn0 hn1 hDl
  clear htold
  have hcode := Lib.hid (show (textD n (D : Int)).2 = 0 by rw [textD_nat n hDl]); rw [hcode.out]; clear hcode
  obtain ⟨Kt, hKt, hKl⟩ : ∃ Kt : Nat, at_ % ((told.size : Int) + 1) = (Kt : Int) ∧ Kt ≤ told.size := ⟨(at_ % ((told.size : Int) + 1)).toNat, by have := Int.emod_nonneg at_ (show (told.size : Int) + 1 ≠ 0 by omega); omega, by have := Int.emod_nonneg at_ (show (told.size : Int) + 1 ≠ 0 by omega); have := Int.emod_lt_of_pos at_ (show (0 : Int) < (told.size : Int) + 1 by omega); omega⟩
  go_upto_region 6 with (fail)
  rw [hKt]; clear hKt
  have hK0 : (0 : Int) ≤ (Kt : Int) := by omega
  have hK1 : (Kt : Int) ≤ (told.size : Int) := by omega
  refine Flow.run [⟨0, 44, fun fv fw => fv = .string S⟩, ⟨1, 45, fun fv fw => fv = .string told⟩, ⟨2, 46, fun fv fw => fv = .string told⟩, ⟨3, 47, fun fv fw => fv = .int .i64 (Kt : Int)⟩, ⟨4, 48, fun fv fw => fv = .string (told.extract 0 Kt)⟩, ⟨5, 49, fun fv fw => fv = .int .u8 (cc.toNat : Int)⟩, ⟨6, 50, fun fv fw => ∃ b, fv = .slice (some ⟨b, 0, none⟩) 1 1 ∧ OwnB fw b [cc]⟩, ⟨7, 51, fun fv fw => fv = .string ⟨#[cc]⟩⟩, ⟨8, 52, fun fv fw => fv = .string (told.extract 0 Kt ++ ⟨#[cc]⟩)⟩, ⟨9, 53, fun fv fw => fv = .string told⟩, ⟨10, 54, fun fv fw => fv = .int .i64 (Kt : Int)⟩, ⟨11, 55, fun fv fw => fv = .string (told.extract Kt told.size)⟩, ⟨12, 56, fun fv fw => fv = .string (told.extract 0 Kt ++ ⟨#[cc]⟩ ++ told.extract Kt told.size)⟩, ⟨13, 57, fun fv fw => fv = .string told⟩, ⟨14, 58, fun fv fw => fv = .int .i64 (Kt : Int)⟩, ⟨15, 59, fun fv fw => fv = .string (told.extract Kt told.size)⟩, ⟨16, 60, fun fv fw => fv = .string told⟩, ⟨17, 61, fun fv fw => fv = .int .i64 (Kt : Int)⟩, ⟨18, 62, fun fv fw => fv = .string (told.extract 0 Kt)⟩, ⟨19, 63, fun fv fw => fv = .string told⟩, ⟨20, 64, fun fv fw => fv = .string (⟨#[45]⟩ ++ told)⟩, ⟨21, 65, fun fv fw => fv = .agg #[.string S, .string told, .string (told.extract 0 Kt ++ ⟨#[cc]⟩ ++ told.extract Kt told.size), .string (told.extract Kt told.size), .string (told.extract 0 Kt), .string (⟨#[45]⟩ ++ told)]⟩, ⟨22, 66, fun fv fw => fv = .int .i64 0⟩] [] [] 0 (by kernel_rfl) (by kernel_rfl) (by kernel_rfl) (fun _ _ _ _ _ h => h) ?_ ?_ ?_ ?_
  · refine (all_cons (fun v w1 w2 h hb => h) (all_cons (fun v w1 w2 h hb => h) (all_cons (fun v w1 w2 h hb => h) (all_cons (fun v w1 w2 h hb => h) (all_cons (fun v w1 w2 h hb => h) (all_cons (fun v w1 w2 h hb => h) (all_cons (fun v w1 w2 h hb => let ⟨b, e, h⟩ := h; ⟨b, e, h.step hb⟩) (all_cons (fun v w1 w2 h hb => h) (all_cons (fun v w1 w2 h hb => h) (all_cons (fun v w1 w2 h hb => h) (all_cons (fun v w1 w2 h hb => h) (all_cons (fun v w1 w2 h hb => h) (all_cons (fun v w1 w2 h hb => h) (all_cons (fun v w1 w2 h hb => h) (all_cons (fun v w1 w2 h hb => h) (all_cons (fun v w1 w2 h hb => h) (all_cons (fun v w1 w2 h hb => h) (all_cons (fun v w1 w2 h hb => h) (all_cons (fun v w1 w2 h hb => h) (all_cons (fun v w1 w2 h hb => h) (all_cons (fun v w1 w2 h hb => h) (all_cons (fun v w1 w2 h hb => h) (all_cons (fun v w1 w2 h hb => h) all_nil)))))))))))))))))))))))
  · refine (all_cons ?_ (all_cons ?_ (all_cons ?_ (all_cons ?_ (all_cons ?_ (all_cons ?_ (all_cons ?_ (all_cons ?_ (all_cons ?_ (all_cons ?_ (all_cons ?_ (all_cons ?_ (all_cons ?_ (all_cons ?_ (all_cons ?_ (all_cons ?_ (all_cons ?_ (all_cons ?_ (all_cons ?_ (all_cons ?_ (all_cons ?_ (all_cons ?_ (all_cons ?_ all_nil)))))))))))))))))))))))
    · intro xs wk6 hBk hdep
      have HBk6 := Lib.hid hBk; have zk6 := hBk.size; clear hBk
      clear hdep
      refine wpOp_step (o := _) rfl (fun K hK => ?_)
      simp only [fpairs, List.cons_append, List.nil_append, List.map_cons, List.map_nil, putAll, Act.put, List.setIfInBounds_toArray, List.set_cons_zero, List.set_cons_succ]
      go_simp
      refine hK _ _ ⟨.string S, by kernel_rfl, Below.refl _ _, rfl, fun h => absurd (show false = true from h) Bool.false_ne_true⟩
    · intro xs wk7 hBk hdep
      have HBk7 := Lib.hid hBk; have zk7 := hBk.size; clear hBk
      clear hdep
      refine wpOp_step (o := _) rfl (fun K hK => ?_)
      simp only [fpairs, List.cons_append, List.nil_append, List.map_cons, List.map_nil, putAll, Act.put, List.setIfInBounds_toArray, List.set_cons_zero, List.set_cons_succ]
      go_simp
      refine hK _ _ ⟨.string told, by kernel_rfl, Below.refl _ _, rfl, fun h => absurd (show false = true from h) Bool.false_ne_true⟩
    · intro xs wk8 hBk hdep
      have HBk8 := Lib.hid hBk; have zk8 := hBk.size; clear hBk
      clear hdep
      refine wpOp_step (o := _) rfl (fun K hK => ?_)
      simp only [fpairs, List.cons_append, List.nil_append, List.map_cons, List.map_nil, putAll, Act.put, List.setIfInBounds_toArray, List.set_cons_zero, List.set_cons_succ]
      go_simp
      refine hK _ _ ⟨.string told, by kernel_rfl, Below.refl _ _, rfl, fun h => absurd (show false = true from h) Bool.false_ne_true⟩
    · intro xs wk9 hBk hdep
      have HBk9 := Lib.hid hBk; have zk9 := hBk.size; clear hBk
      clear hdep
      refine wpOp_step (o := _) rfl (fun K hK => ?_)
      simp only [fpairs, List.cons_append, List.nil_append, List.map_cons, List.map_nil, putAll, Act.put, List.setIfInBounds_toArray, List.set_cons_zero, List.set_cons_succ]
      go_simp
      refine hK _ _ ⟨.int .i64 (Kt : Int), by kernel_rfl, Below.refl _ _, rfl, fun h => absurd (show false = true from h) Bool.false_ne_true⟩
    · intro xs wk10 hBk hdep
      have HBk10 := Lib.hid hBk; have zk10 := hBk.size; clear hBk
      have f2 : (xs 2) = .string told := hdep _ (List.mem_of_getElem? (i := 2) rfl) (by kernel_rfl)
      have f3 : (xs 3) = .int .i64 (Kt : Int) := hdep _ (List.mem_of_getElem? (i := 3) rfl) (by kernel_rfl)
      clear hdep
      refine wpOp_step (o := _) rfl (fun K hK => ?_)
      simp only [fpairs, List.cons_append, List.nil_append, List.map_cons, List.map_nil, putAll, Act.put, List.setIfInBounds_toArray, List.set_cons_zero, List.set_cons_succ]
      go_simp
      refine hK _ _ ⟨.string (told.extract 0 Kt), by simp only [fpairs, List.cons_append, List.nil_append, List.map_cons, List.map_nil, putAll, Act.put, List.setIfInBounds_toArray, List.set_cons_zero, List.set_cons_succ, f2, f3], Below.refl _ _, rfl, fun h => absurd (show false = true from h) Bool.false_ne_true⟩
    · intro xs wk11 hBk hdep
      have HBk11 := Lib.hid hBk; have zk11 := hBk.size; clear hBk
      clear hdep
      refine wpOp_step (o := _) rfl (fun K hK => ?_)
      simp only [fpairs, List.cons_append, List.nil_append, List.map_cons, List.map_nil, putAll, Act.put, List.setIfInBounds_toArray, List.set_cons_zero, List.set_cons_succ]
      go_simp
      refine hK _ _ ⟨.int .u8 (cc.toNat : Int), by kernel_rfl, Below.refl _ _, rfl, fun h => absurd (show false = true from h) Bool.false_ne_true⟩
    · intro xs wk12 hBk hdep
      have HBk12 := Lib.hid hBk; have zk12 := hBk.size; clear hBk
      have f5 : (xs 5) = .int .u8 (cc.toNat : Int) := hdep _ (List.mem_of_getElem? (i := 5) rfl) (by kernel_rfl)
      clear hdep
      refine wpOp_step (o := _) rfl (fun K hK => ?_)
      simp only [fpairs, List.cons_append, List.nil_append, List.map_cons, List.map_nil, putAll, Act.put, List.setIfInBounds_toArray, List.set_cons_zero, List.set_cons_succ]
      go_simp
      refine hK _ _ ⟨.slice (some ⟨wk12.heap.size, 0, none⟩) 1 1, by simp only [fpairs, List.cons_append, List.nil_append, List.map_cons, List.map_nil, putAll, Act.put, List.setIfInBounds_toArray, List.set_cons_zero, List.set_cons_succ, f5], (Below.refl _ _).alloc (Nat.le_refl _) _, ⟨_, rfl, ⟨[], heap_alloc_new _ _⟩⟩, fun h => absurd (show false = true from h) Bool.false_ne_true⟩
    · intro xs wk13 hBk hdep
      have HBk13 := Lib.hid hBk; have zk13 := hBk.size; clear hBk
      have f6 : ∃ b, (xs 6) = .slice (some ⟨b, 0, none⟩) 1 1 ∧ OwnB wk13 b [cc] := hdep _ (List.mem_of_getElem? (i := 6) rfl) (by kernel_rfl)
      clear hdep
      refine wpOp_step (o := _) rfl (fun K hK => ?_)
      simp only [fpairs, List.cons_append, List.nil_append, List.map_cons, List.map_nil, putAll, Act.put, List.setIfInBounds_toArray, List.set_cons_zero, List.set_cons_succ]
      obtain ⟨b, hu, ho⟩ := f6; rw [hu]; have hcv := conv_bytes (cap := 1) ho (show 1 = [cc].length from rfl)
      go_simp
      refine hK _ _ ⟨.string ⟨#[cc]⟩, by simp only [fpairs, List.cons_append, List.nil_append, List.map_cons, List.map_nil, putAll, Act.put, List.setIfInBounds_toArray, List.set_cons_zero, List.set_cons_succ, hu], Below.refl _ _, rfl, fun h => absurd (show false = true from h) Bool.false_ne_true⟩
    · intro xs wk14 hBk hdep
      have HBk14 := Lib.hid hBk; have zk14 := hBk.size; clear hBk
      have f4 : (xs 4) = .string (told.extract 0 Kt) := hdep _ (List.mem_of_getElem? (i := 4) rfl) (by kernel_rfl)
      have f7 : (xs 7) = .string ⟨#[cc]⟩ := hdep _ (List.mem_of_getElem? (i := 7) rfl) (by kernel_rfl)
      clear hdep
      refine wpOp_step (o := _) rfl (fun K hK => ?_)
      simp only [fpairs, List.cons_append, List.nil_append, List.map_cons, List.map_nil, putAll, Act.put, List.setIfInBounds_toArray, List.set_cons_zero, List.set_cons_succ]
      have hcat4 : ¬ 9223372036854775807 < Kt + 1 := by omega
      have hcat5 : ¬ 9223372036854775807 < Kt + 1 + (told.size - Kt) := by omega
      have hcat : ¬ 9223372036854775807 < min Kt told.size + 1 := by omega
      have hcat2 : ¬ 9223372036854775807 < min Kt told.size + 1 + (told.size - Kt) := by omega
      have hcat3 : ¬ 9223372036854775807 < 1 + told.size := by omega
      go_simp
      refine hK _ _ ⟨.string (told.extract 0 Kt ++ ⟨#[cc]⟩), by simp only [fpairs, List.cons_append, List.nil_append, List.map_cons, List.map_nil, putAll, Act.put, List.setIfInBounds_toArray, List.set_cons_zero, List.set_cons_succ, f4, f7], Below.refl _ _, rfl, fun h => absurd (show false = true from h) Bool.false_ne_true⟩
    · intro xs wk15 hBk hdep
      have HBk15 := Lib.hid hBk; have zk15 := hBk.size; clear hBk
      clear hdep
      refine wpOp_step (o := _) rfl (fun K hK => ?_)
      simp only [fpairs, List.cons_append, List.nil_append, List.map_cons, List.map_nil, putAll, Act.put, List.setIfInBounds_toArray, List.set_cons_zero, List.set_cons_succ]
      go_simp
      refine hK _ _ ⟨.string told, by kernel_rfl, Below.refl _ _, rfl, fun h => absurd (show false = true from h) Bool.false_ne_true⟩
    · intro xs wk16 hBk hdep
      have HBk16 := Lib.hid hBk; have zk16 := hBk.size; clear hBk
      clear hdep
      refine wpOp_step (o := _) rfl (fun K hK => ?_)
      simp only [fpairs, List.cons_append, List.nil_append, List.map_cons, List.map_nil, putAll, Act.put, List.setIfInBounds_toArray, List.set_cons_zero, List.set_cons_succ]
      go_simp
      refine hK _ _ ⟨.int .i64 (Kt : Int), by kernel_rfl, Below.refl _ _, rfl, fun h => absurd (show false = true from h) Bool.false_ne_true⟩
    · intro xs wk17 hBk hdep
      have HBk17 := Lib.hid hBk; have zk17 := hBk.size; clear hBk
      have f9 : (xs 9) = .string told := hdep _ (List.mem_of_getElem? (i := 9) rfl) (by kernel_rfl)
      have f10 : (xs 10) = .int .i64 (Kt : Int) := hdep _ (List.mem_of_getElem? (i := 10) rfl) (by kernel_rfl)
      clear hdep
      refine wpOp_step (o := _) rfl (fun K hK => ?_)
      simp only [fpairs, List.cons_append, List.nil_append, List.map_cons, List.map_nil, putAll, Act.put, List.setIfInBounds_toArray, List.set_cons_zero, List.set_cons_succ]
      go_simp
      refine hK _ _ ⟨.string (told.extract Kt told.size), by simp only [fpairs, List.cons_append, List.nil_append, List.map_cons, List.map_nil, putAll, Act.put, List.setIfInBounds_toArray, List.set_cons_zero, List.set_cons_succ, f9, f10], Below.refl _ _, rfl, fun h => absurd (show false = true from h) Bool.false_ne_true⟩
    · intro xs wk18 hBk hdep
      have HBk18 := Lib.hid hBk; have zk18 := hBk.size; clear hBk
      have f8 : (xs 8) = .string (told.extract 0 Kt ++ ⟨#[cc]⟩) := hdep _ (List.mem_of_getElem? (i := 8) rfl) (by kernel_rfl)
      have f11 : (xs 11) = .string (told.extract Kt told.size) := hdep _ (List.mem_of_getElem? (i := 11) rfl) (by kernel_rfl)
      clear hdep
      refine wpOp_step (o := _) rfl (fun K hK => ?_)
      simp only [fpairs, List.cons_append, List.nil_append, List.map_cons, List.map_nil, putAll, Act.put, List.setIfInBounds_toArray, List.set_cons_zero, List.set_cons_succ]
      have hcat4 : ¬ 9223372036854775807 < Kt + 1 := by omega
      have hcat5 : ¬ 9223372036854775807 < Kt + 1 + (told.size - Kt) := by omega
      have hcat : ¬ 9223372036854775807 < min Kt told.size + 1 := by omega
      have hcat2 : ¬ 9223372036854775807 < min Kt told.size + 1 + (told.size - Kt) := by omega
      have hcat3 : ¬ 9223372036854775807 < 1 + told.size := by omega
      go_simp
      refine hK _ _ ⟨.string (told.extract 0 Kt ++ ⟨#[cc]⟩ ++ told.extract Kt told.size), by simp only [fpairs, List.cons_append, List.nil_append, List.map_cons, List.map_nil, putAll, Act.put, List.setIfInBounds_toArray, List.set_cons_zero, List.set_cons_succ, f8, f11], Below.refl _ _, rfl, fun h => absurd (show false = true from h) Bool.false_ne_true⟩
    · intro xs wk19 hBk hdep
      have HBk19 := Lib.hid hBk; have zk19 := hBk.size; clear hBk
      clear hdep
      refine wpOp_step (o := _) rfl (fun K hK => ?_)
      simp only [fpairs, List.cons_append, List.nil_append, List.map_cons, List.map_nil, putAll, Act.put, List.setIfInBounds_toArray, List.set_cons_zero, List.set_cons_succ]
      go_simp
      refine hK _ _ ⟨.string told, by kernel_rfl, Below.refl _ _, rfl, fun h => absurd (show false = true from h) Bool.false_ne_true⟩
    · intro xs wk20 hBk hdep
      have HBk20 := Lib.hid hBk; have zk20 := hBk.size; clear hBk
      clear hdep
      refine wpOp_step (o := _) rfl (fun K hK => ?_)
      simp only [fpairs, List.cons_append, List.nil_append, List.map_cons, List.map_nil, putAll, Act.put, List.setIfInBounds_toArray, List.set_cons_zero, List.set_cons_succ]
      go_simp
      refine hK _ _ ⟨.int .i64 (Kt : Int), by kernel_rfl, Below.refl _ _, rfl, fun h => absurd (show false = true from h) Bool.false_ne_true⟩
    · intro xs wk21 hBk hdep
      have HBk21 := Lib.hid hBk; have zk21 := hBk.size; clear hBk
      have f13 : (xs 13) = .string told := hdep _ (List.mem_of_getElem? (i := 13) rfl) (by kernel_rfl)
      have f14 : (xs 14) = .int .i64 (Kt : Int) := hdep _ (List.mem_of_getElem? (i := 14) rfl) (by kernel_rfl)
      clear hdep
      refine wpOp_step (o := _) rfl (fun K hK => ?_)
      simp only [fpairs, List.cons_append, List.nil_append, List.map_cons, List.map_nil, putAll, Act.put, List.setIfInBounds_toArray, List.set_cons_zero, List.set_cons_succ]
      go_simp
      refine hK _ _ ⟨.string (told.extract Kt told.size), by simp only [fpairs, List.cons_append, List.nil_append, List.map_cons, List.map_nil, putAll, Act.put, List.setIfInBounds_toArray, List.set_cons_zero, List.set_cons_succ, f13, f14], Below.refl _ _, rfl, fun h => absurd (show false = true from h) Bool.false_ne_true⟩
    · intro xs wk22 hBk hdep
      have HBk22 := Lib.hid hBk; have zk22 := hBk.size; clear hBk
      clear hdep
      refine wpOp_step (o := _) rfl (fun K hK => ?_)
      simp only [fpairs, List.cons_append, List.nil_append, List.map_cons, List.map_nil, putAll, Act.put, List.setIfInBounds_toArray, List.set_cons_zero, List.set_cons_succ]
      go_simp
      refine hK _ _ ⟨.string told, by kernel_rfl, Below.refl _ _, rfl, fun h => absurd (show false = true from h) Bool.false_ne_true⟩
    · intro xs wk23 hBk hdep
      have HBk23 := Lib.hid hBk; have zk23 := hBk.size; clear hBk
      clear hdep
      refine wpOp_step (o := _) rfl (fun K hK => ?_)
      simp only [fpairs, List.cons_append, List.nil_append, List.map_cons, List.map_nil, putAll, Act.put, List.setIfInBounds_toArray, List.set_cons_zero, List.set_cons_succ]
      go_simp
      refine hK _ _ ⟨.int .i64 (Kt : Int), by kernel_rfl, Below.refl _ _, rfl, fun h => absurd (show false = true from h) Bool.false_ne_true⟩
    · intro xs wk24 hBk hdep
      have HBk24 := Lib.hid hBk; have zk24 := hBk.size; clear hBk
      have f16 : (xs 16) = .string told := hdep _ (List.mem_of_getElem? (i := 16) rfl) (by kernel_rfl)
      have f17 : (xs 17) = .int .i64 (Kt : Int) := hdep _ (List.mem_of_getElem? (i := 17) rfl) (by kernel_rfl)
      clear hdep
      refine wpOp_step (o := _) rfl (fun K hK => ?_)
      simp only [fpairs, List.cons_append, List.nil_append, List.map_cons, List.map_nil, putAll, Act.put, List.setIfInBounds_toArray, List.set_cons_zero, List.set_cons_succ]
      go_simp
      refine hK _ _ ⟨.string (told.extract 0 Kt), by simp only [fpairs, List.cons_append, List.nil_append, List.map_cons, List.map_nil, putAll, Act.put, List.setIfInBounds_toArray, List.set_cons_zero, List.set_cons_succ, f16, f17], Below.refl _ _, rfl, fun h => absurd (show false = true from h) Bool.false_ne_true⟩
    · intro xs wk25 hBk hdep
      have HBk25 := Lib.hid hBk; have zk25 := hBk.size; clear hBk
      clear hdep
      refine wpOp_step (o := _) rfl (fun K hK => ?_)
      simp only [fpairs, List.cons_append, List.nil_append, List.map_cons, List.map_nil, putAll, Act.put, List.setIfInBounds_toArray, List.set_cons_zero, List.set_cons_succ]
      go_simp
      refine hK _ _ ⟨.string told, by kernel_rfl, Below.refl _ _, rfl, fun h => absurd (show false = true from h) Bool.false_ne_true⟩
    · intro xs wk26 hBk hdep
      have HBk26 := Lib.hid hBk; have zk26 := hBk.size; clear hBk
      have f19 : (xs 19) = .string told := hdep _ (List.mem_of_getElem? (i := 19) rfl) (by kernel_rfl)
      clear hdep
      refine wpOp_step (o := _) rfl (fun K hK => ?_)
      simp only [fpairs, List.cons_append, List.nil_append, List.map_cons, List.map_nil, putAll, Act.put, List.setIfInBounds_toArray, List.set_cons_zero, List.set_cons_succ]
      have hcat4 : ¬ 9223372036854775807 < Kt + 1 := by omega
      have hcat5 : ¬ 9223372036854775807 < Kt + 1 + (told.size - Kt) := by omega
      have hcat : ¬ 9223372036854775807 < min Kt told.size + 1 := by omega
      have hcat2 : ¬ 9223372036854775807 < min Kt told.size + 1 + (told.size - Kt) := by omega
      have hcat3 : ¬ 9223372036854775807 < 1 + told.size := by omega
      go_simp
      refine hK _ _ ⟨.string (⟨#[45]⟩ ++ told), by simp only [fpairs, List.cons_append, List.nil_append, List.map_cons, List.map_nil, putAll, Act.put, List.setIfInBounds_toArray, List.set_cons_zero, List.set_cons_succ, f19], Below.refl _ _, rfl, fun h => absurd (show false = true from h) Bool.false_ne_true⟩
    · intro xs wk27 hBk hdep
      have HBk27 := Lib.hid hBk; have zk27 := hBk.size; clear hBk
      have f0 : (xs 0) = .string S := hdep _ (List.mem_of_getElem? (i := 0) rfl) (by kernel_rfl)
      have f1 : (xs 1) = .string told := hdep _ (List.mem_of_getElem? (i := 1) rfl) (by kernel_rfl)
      have f12 : (xs 12) = .string (told.extract 0 Kt ++ ⟨#[cc]⟩ ++ told.extract Kt told.size) := hdep _ (List.mem_of_getElem? (i := 12) rfl) (by kernel_rfl)
      have f15 : (xs 15) = .string (told.extract Kt told.size) := hdep _ (List.mem_of_getElem? (i := 15) rfl) (by kernel_rfl)
      have f18 : (xs 18) = .string (told.extract 0 Kt) := hdep _ (List.mem_of_getElem? (i := 18) rfl) (by kernel_rfl)
      have f20 : (xs 20) = .string (⟨#[45]⟩ ++ told) := hdep _ (List.mem_of_getElem? (i := 20) rfl) (by kernel_rfl)
      clear hdep
      refine wpOp_step (o := _) rfl (fun K hK => ?_)
      simp only [fpairs, List.cons_append, List.nil_append, List.map_cons, List.map_nil, putAll, Act.put, List.setIfInBounds_toArray, List.set_cons_zero, List.set_cons_succ]
      go_simp
      refine hK _ _ ⟨.agg #[.string S, .string told, .string (told.extract 0 Kt ++ ⟨#[cc]⟩ ++ told.extract Kt told.size), .string (told.extract Kt told.size), .string (told.extract 0 Kt), .string (⟨#[45]⟩ ++ told)], by simp only [fpairs, List.cons_append, List.nil_append, List.map_cons, List.map_nil, putAll, Act.put, List.setIfInBounds_toArray, List.set_cons_zero, List.set_cons_succ, f0, f1, f12, f15, f18, f20], Below.refl _ _, rfl, fun h => absurd (show false = true from h) Bool.false_ne_true⟩
    · intro xs wk28 hBk hdep
      have HBk28 := Lib.hid hBk; have zk28 := hBk.size; clear hBk
      clear hdep
      refine wpOp_step (o := _) rfl (fun K hK => ?_)
      simp only [fpairs, List.cons_append, List.nil_append, List.map_cons, List.map_nil, putAll, Act.put, List.setIfInBounds_toArray, List.set_cons_zero, List.set_cons_succ]
      go_simp
      refine hK _ _ ⟨.int .i64 0, by kernel_rfl, Below.refl _ _, rfl, fun h => absurd (show false = true from h) Bool.false_ne_true⟩
  · exact all_nil
  · intro xs wf29 hbf hf hn hd
    have f0 : (xs 0) = .string S := hf _ (List.mem_of_getElem? (i := 0) rfl)
    have f1 : (xs 1) = .string told := hf _ (List.mem_of_getElem? (i := 1) rfl)
    have f2 : (xs 2) = .string told := hf _ (List.mem_of_getElem? (i := 2) rfl)
    have f3 : (xs 3) = .int .i64 (Kt : Int) := hf _ (List.mem_of_getElem? (i := 3) rfl)
    have f4 : (xs 4) = .string (told.extract 0 Kt) := hf _ (List.mem_of_getElem? (i := 4) rfl)
    have f5 : (xs 5) = .int .u8 (cc.toNat : Int) := hf _ (List.mem_of_getElem? (i := 5) rfl)
    have f6 : ∃ b, (xs 6) = .slice (some ⟨b, 0, none⟩) 1 1 ∧ OwnB wf29 b [cc] := hf _ (List.mem_of_getElem? (i := 6) rfl)
    have f7 : (xs 7) = .string ⟨#[cc]⟩ := hf _ (List.mem_of_getElem? (i := 7) rfl)
    have f8 : (xs 8) = .string (told.extract 0 Kt ++ ⟨#[cc]⟩) := hf _ (List.mem_of_getElem? (i := 8) rfl)
    have f9 : (xs 9) = .string told := hf _ (List.mem_of_getElem? (i := 9) rfl)
    have f10 : (xs 10) = .int .i64 (Kt : Int) := hf _ (List.mem_of_getElem? (i := 10) rfl)
    have f11 : (xs 11) = .string (told.extract Kt told.size) := hf _ (List.mem_of_getElem? (i := 11) rfl)
    have f12 : (xs 12) = .string (told.extract 0 Kt ++ ⟨#[cc]⟩ ++ told.extract Kt told.size) := hf _ (List.mem_of_getElem? (i := 12) rfl)
    have f13 : (xs 13) = .string told := hf _ (List.mem_of_getElem? (i := 13) rfl)
    have f14 : (xs 14) = .int .i64 (Kt : Int) := hf _ (List.mem_of_getElem? (i := 14) rfl)
    have f15 : (xs 15) = .string (told.extract Kt told.size) := hf _ (List.mem_of_getElem? (i := 15) rfl)
    have f16 : (xs 16) = .string told := hf _ (List.mem_of_getElem? (i := 16) rfl)
    have f17 : (xs 17) = .int .i64 (Kt : Int) := hf _ (List.mem_of_getElem? (i := 17) rfl)
    have f18 : (xs 18) = .string (told.extract 0 Kt) := hf _ (List.mem_of_getElem? (i := 18) rfl)
    have f19 : (xs 19) = .string told := hf _ (List.mem_of_getElem? (i := 19) rfl)
    have f20 : (xs 20) = .string (⟨#[45]⟩ ++ told) := hf _ (List.mem_of_getElem? (i := 20) rfl)
    have f21 : (xs 21) = .agg #[.string S, .string told, .string (told.extract 0 Kt ++ ⟨#[cc]⟩ ++ told.extract Kt told.size), .string (told.extract Kt told.size), .string (told.extract 0 Kt), .string (⟨#[45]⟩ ++ told)] := hf _ (List.mem_of_getElem? (i := 21) rfl)
    have f22 : (xs 22) = .int .i64 0 := hf _ (List.mem_of_getElem? (i := 22) rfl)
    clear hf hn hd
    simp only [fpairs, List.cons_append, List.nil_append, List.map_cons, List.map_nil, putAll, Act.put, List.setIfInBounds_toArray, List.set_cons_zero, List.set_cons_succ]
    have B30 := Lib.hid hbf
    have z30 := B30.out.size
    have HB31 := Lib.hid (HB5.out.trans (B30.out.mono HB5.out.size))
    clear hbf
    generalize xs 0 = x0 at *
    generalize xs 1 = x1 at *
    generalize xs 2 = x2 at *
    generalize xs 3 = x3 at *
    generalize xs 4 = x4 at *
    generalize xs 5 = x5 at *
    generalize xs 6 = x6 at *
    generalize xs 7 = x7 at *
    generalize xs 8 = x8 at *
    generalize xs 9 = x9 at *
    generalize xs 10 = x10 at *
    generalize xs 11 = x11 at *
    generalize xs 12 = x12 at *
    generalize xs 13 = x13 at *
    generalize xs 14 = x14 at *
    generalize xs 15 = x15 at *
    generalize xs 16 = x16 at *
    generalize xs 17 = x17 at *
    generalize xs 18 = x18 at *
    generalize xs 19 = x19 at *
    generalize xs 20 = x20 at *
    generalize xs 21 = x21 at *
    generalize xs 22 = x22 at *
    obtain rfl := f0
    obtain rfl := f1
    obtain rfl := f2
    obtain rfl := f3
    obtain rfl := f4
    obtain rfl := f5
    clear f6
    obtain rfl := f7
    obtain rfl := f8
    obtain rfl := f9
    obtain rfl := f10
    obtain rfl := f11
    obtain rfl := f12
    obtain rfl := f13
    obtain rfl := f14
    obtain rfl := f15
    obtain rfl := f16
    obtain rfl := f17
    obtain rfl := f18
    obtain rfl := f19
    obtain rfl := f20
    obtain rfl := f21
    obtain rfl := f22
    refine Early.done (by kernel_rfl) ?_ _
    (try simp only [Exit.then])
    have hx1 := hSs; have hx2 : told.size ≤ 200 := by omega
    have hz1 : (told.extract 0 Kt).size ≤ 48 := by rw [ByteArray.size_extract]; omega
    have hz2 : (told.extract Kt told.size).size ≤ 48 := by rw [ByteArray.size_extract]; omega
    have hx3 : (told.extract 0 Kt ++ ⟨#[cc]⟩ ++ told.extract Kt told.size : ByteArray).size ≤ 200 := by rw [ByteArray.size_append, ByteArray.size_append, show (ByteArray.mk #[cc]).size = 1 from rfl]; omega
    have hx6 : (⟨#[45]⟩ ++ told : ByteArray).size ≤ 200 := by rw [ByteArray.size_append, show (ByteArray.mk #[45]).size = 1 from rfl]; omega
    obtain ⟨a3, h3⟩ : ∃ a, a = (told.extract 0 Kt ++ ⟨#[cc]⟩ ++ told.extract Kt told.size : ByteArray) := ⟨_, rfl⟩; rw [← h3] at hx3 ⊢; clear h3
    obtain ⟨a4, h4⟩ : ∃ a, a = told.extract Kt told.size := ⟨_, rfl⟩; rw [← h4] at hz2 ⊢; clear h4
    obtain ⟨a5, h5⟩ : ∃ a, a = told.extract 0 Kt := ⟨_, rfl⟩; rw [← h5] at hz1 ⊢; clear h5
    obtain ⟨a6, h6⟩ : ∃ a, a = (⟨#[45]⟩ ++ told : ByteArray) := ⟨_, rfl⟩; rw [← h6] at hx6 ⊢; clear h6
    go_wp2
    go_loopw [66] (fun iv wr => ∃ o : Nat, o ≤ 6 ∧ iv = .int .i64 o ∧ Hid (Below w.heap.size w wr)) (fun iv _ => 6 - (intOf iv).toNat)
    case atStart => exact ⟨0, Nat.zero_le _, rfl, HB31⟩
    case round =>
      obtain ⟨o, hon, rfl, HBo⟩ := hrel
      obtain ⟨wo, hwo⟩ : ∃ x : World, x = wr := ⟨_, rfl⟩; subst hwo
      by_cases hlt : o < 6
      · skip
        have hlti : (o : Int) < 6 := by omega
        obtain ⟨t, ht, hidx⟩ := idxS6 S told a3 a4 a5 a6 (k := 200) (by omega) hx2 hx3 (by omega) (by omega) hx6 o hlt
        go_wp2_with fail
        refine (placesD_any _ d).mono ?_
        rintro e w32 ⟨hb32, p, hp0, hp1, rfl⟩
        have B33 := Lib.hid hb32
        have z33 := B33.out.size
        have HB34 := Lib.hid (HBo.out.trans (B33.out.mono HBo.out.size))
        clear hb32
        clear hidx
        go_wp2
        go_loopw [71] (fun iv wr => ∃ k : Nat, k ≤ 2 ∧ iv = .int .i64 k ∧ Hid (Below w.heap.size w wr)) (fun iv _ => 2 - (intOf iv).toNat)
        case atStart => exact ⟨0, Nat.zero_le _, rfl, HB34⟩
        case round =>
          obtain ⟨k, hkn, rfl, HBk⟩ := hrel
          obtain ⟨wk, hwk⟩ : ∃ x : World, x = wr := ⟨_, rfl⟩; subst hwk
          by_cases hlt2 : k < 2
          · skip
            have hlt2i : (k : Int) < 2 := by omega
            obtain ⟨q, hq, hidx⟩ := idxT2 d p k hlt2
            have hq0 : -9223372036854775808 ≤ q := by omega
            have hq1 : q ≤ 9223372036854775807 := by omega
            clear hq
            obtain ⟨⟨r1, r2⟩, hr⟩ : ∃ r, r = parseD t.data.toList q := ⟨_, rfl⟩; have HR := Lib.hid hr; clear hr
            go_wp2_with fail
            refine (DParse_lit (s := t) (d := q) HR.out.symm (by omega) hq0 hq1 (G.step HBk.out) (M.step HBk.out)).mono ?_
            rintro e w35 ⟨hb35, rfl⟩
            have B36 := Lib.hid hb35
            have z36 := B36.out.size
            have HB37 := Lib.hid (HBk.out.trans (B36.out.mono HBk.out.size))
            clear hb35
            go_wp2_with fail
            refine (RParseD_any _ t q (by omega)).mono ?_
            rintro e w38 ⟨hb38, rfl⟩
            have B39 := Lib.hid hb38
            have z39 := B39.out.size
            have HB40 := Lib.hid (HB37.out.trans (B39.out.mono HB37.out.size))
            clear hb38
            rw [← HR.out]; dsimp only; clear hidx
            go_wp2
            go_roundw
            case rel => exact ⟨k + 1, by omega, by go_num, Lib.hid HB40.out⟩
            case measure => simp [intOf]; omega
          · obtain rfl : k = 2 := by omega
            go_wp2
            go_roundw
            case rel => exact ⟨o + 1, by omega, by go_num, Lib.hid HBk.out⟩
            case measure => simp [intOf]; omega
      · obtain rfl : o = 6 := by omega
        go_wp2
        go_ret
        exact ⟨HBo.out, rfl⟩
end Go.Proofs.YtfklkphoplpebaaGreatDoor
