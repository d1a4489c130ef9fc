/- places, and the law DecTexts (written by gen_dectexts.py). -/
import Derived.Test.YtfklkphoplpebaaGreatDoorDecWk
import Derived.Test.YtfklkphoplpebaaGreatDoorRTextD
namespace Go.Proofs.YtfklkphoplpebaaGreatDoor
open Go Go.RowKit Dig

theorem u64_mod (n : Int) : IntKind.u64.wrap n = n % 18446744073709551616 := by simp [IntKind.wrap, IntKind.bits, IntKind.signed]
theorem placesD_any (w : World) (d : Int) :
    Calls Tryz.prog 11 #[.int .i64 d] w fun e w' => Below w.heap.size w w' ∧ ∃ p : Int, 0 ≤ p ∧ p ≤ 19 ∧ e = .returned (.agg #[.int .i64 d, .int .i64 p]) := by
  obtain ⟨p, hp⟩ : ∃ p, p = wrap64 ((IntKind.u64.wrap d).tmod 20) := ⟨_, rfl⟩
  have h0 : 0 ≤ p ∧ p ≤ 19 := by
    rw [hp, u64_mod]
    have h1 : 0 ≤ d % 18446744073709551616 := Int.emod_nonneg _ (by decide)
    have h2 := Int.tmod_eq_emod_of_nonneg (a := d % 18446744073709551616) (b := 20) h1
    rw [h2, IntWalk.wrap64_in _ (by omega)]
    omega
  have HB := Lib.hid (below_alloc1 (Below.refl w.heap.size w) (.cells #[.int .i64 d, .int .i64 p] 25))
  have HC := Lib.hid (CB.new w 25 #[.int .i64 d, .int .i64 p])
  have HP := Lib.hid h0; clear h0
  go_enter Tryz.func11, Tryz.ntmps11
  go_wp2
  rw [← hp]
  exact bodyPost_ret (results_cell_row rfl _ _ w.heap.size _ #[.int .i64 d, .int .i64 p] (0, 0) _ rfl HC.out Tryz.underlying25 rfl (by kernel_rfl)) rfl ⟨HB.out, p, HP.out.1, HP.out.2, rfl⟩
theorem idxT2 (a b : Int) (j : Nat) (h : j < 2) : ∃ m, (m = a ∨ m = b) ∧ ∀ w, (Instr.index 25 (.agg #[.int .i64 a, .int .i64 b]) (.int .i64 (j : Int))).run Tryz.prog w = .ok (.int .i64 m) w := by
  match j, h with
  | 0, _ => exact ⟨a, .inl rfl, fun _ => by kernel_rfl⟩
  | 1, _ => exact ⟨b, .inr rfl, fun _ => by kernel_rfl⟩
theorem idxT3 (a b c : Int) (j : Nat) (h : j < 3) : ∃ m, (m = a ∨ m = b ∨ m = c) ∧ ∀ w, (Instr.index 24 (.agg #[.int .i64 a, .int .i64 b, .int .i64 c]) (.int .i64 (j : Int))).run Tryz.prog w = .ok (.int .i64 m) w := by
  match j, h with
  | 0, _ => exact ⟨a, .inl rfl, fun _ => by kernel_rfl⟩
  | 1, _ => exact ⟨b, .inr (.inl rfl), fun _ => by kernel_rfl⟩
  | 2, _ => exact ⟨c, .inr (.inr rfl), fun _ => by kernel_rfl⟩
set_option maxRecDepth 100000 in
set_option maxHeartbeats 4000000 in
theorem DecTexts_any (w : World) (G : Glob w) (M : MaxL w) (n : Int) (hn0 : -9223372036854775808 ≤ n) (hn1 : n ≤ 9223372036854775807) (d : Int) (hd0 : -9223372036854775808 ≤ d) (hd1 : d ≤ 9223372036854775807) :
    Calls Tryz.prog 3 #[.int .i64 n, .int .i64 d] w fun e w' => Below w.heap.size w w' ∧ e = .returned (.bool true) := by
  go_enter Tryz.func3, Tryz.ntmps3
  go_wp2_with fail
  refine (worksD_any _ G M).mono ?_
  rintro e w1 ⟨hb1, rfl⟩
  have B2 := Lib.hid hb1
  have z2 := B2.out.size
  clear hb1
  go_wp2
  go_loopw [21] (fun iv wr => ∃ o : Nat, o ≤ 3 ∧ iv = .int .i64 o ∧ Hid (Below w.heap.size w wr)) (fun iv _ => 3 - (intOf iv).toNat)
  case atStart => exact ⟨0, Nat.zero_le _, rfl, B2⟩
  case round =>
    obtain ⟨o, hon, rfl, HBo⟩ := hrel
    obtain ⟨wo, hwo⟩ : ∃ x : World, x = wr := ⟨_, rfl⟩; subst hwo
    by_cases hlt : o < 3
    · skip
      have hlti : (o : Int) < 3 := by omega
      obtain ⟨m, hm, hidx⟩ := idxT3 n (n / 1073741824) (n / 1125899906842624) o hlt
      have hm0 : -9223372036854775808 ≤ m := by omega
      have hm1 : m ≤ 9223372036854775807 := by omega
      clear hm
      go_wp2_with fail
      refine (placesD_any _ d).mono ?_
      rintro e w3 ⟨hb3, p, hp0, hp1, rfl⟩
      have B4 := Lib.hid hb3
      have z4 := B4.out.size
      have HB5 := Lib.hid (HBo.out.trans (B4.out.mono HBo.out.size))
      clear hb3
      clear hidx
      go_wp2
      go_loopw [26] (fun iv wr => ∃ k : Nat, k ≤ 2 ∧ iv = .int .i64 k ∧ Hid (Below w.heap.size w wr)) (fun iv _ => 2 - (intOf iv).toNat)
      case atStart => exact ⟨0, Nat.zero_le _, rfl, HB5⟩
      case round =>
        obtain ⟨k, hkn, rfl, HBk⟩ := hrel
        obtain ⟨wk, hwk⟩ : ∃ x : World, x = wr := ⟨_, rfl⟩; subst hwk
        by_cases hlt2 : k < 2
        · skip
          have hlt2i : (k : Int) < 2 := by omega
          obtain ⟨q, hq, hidx⟩ := idxT2 d p k hlt2
          have hq0 : -9223372036854775808 ≤ q := by omega
          have hq1 : q ≤ 9223372036854775807 := by omega
          clear hq
          go_wp2_with fail
          refine (DText_any _ m q hm0 hm1 hq0 hq1 (G.step HBk.out)).mono ?_
          rintro e w6 ⟨hb6, t1, rfl, ht1⟩
          have B7 := Lib.hid hb6
          have z7 := B7.out.size
          have HB8 := Lib.hid (HBk.out.trans (B7.out.mono HBk.out.size))
          clear hb6
          obtain ⟨r, hr⟩ : ∃ r, r = textD m q := ⟨_, rfl⟩; rw [← hr] at ht1 ⊢; have HR := Lib.hid hr; have HT1 := Lib.hid ht1; clear hr ht1
          go_wp2_with fail
          refine (RTextD_any _ m q hm0 hm1 hq0 hq1).mono ?_
          rintro e w9 ⟨hb9, t2, rfl, ht2⟩
          have B10 := Lib.hid hb9
          have z10 := B10.out.size
          have HB11 := Lib.hid (HB8.out.trans (B10.out.mono HB8.out.size))
          clear hb9
          rw [← HR.out] at ht2 ⊢
          have heq : (t1.toList == t2.toList) = true := by rw [beq_str, HT1.out, ht2]; simp
          clear ht2 HT1 HR hidx
          go_wp2
          go_roundw
          case rel => exact ⟨k + 1, by omega, by go_num, Lib.hid HB11.out⟩
          case measure => simp [intOf]; omega
        · obtain rfl : k = 2 := by omega
          go_wp2
          go_roundw
          case rel => exact ⟨o + 1, by omega, by go_num, Lib.hid HBk.out⟩
          case measure => simp [intOf]; omega
    · obtain rfl : o = 3 := by omega
      go_wp2
      go_ret
      exact ⟨HBo.out, rfl⟩
end Go.Proofs.YtfklkphoplpebaaGreatDoor
