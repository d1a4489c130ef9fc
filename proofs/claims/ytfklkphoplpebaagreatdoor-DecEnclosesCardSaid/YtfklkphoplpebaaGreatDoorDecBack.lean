/- The law DecBack (written by gen_decback.py). -/
import Derived.Test.YtfklkphoplpebaaGreatDoorDecTexts
namespace Go.Proofs.YtfklkphoplpebaaGreatDoor
open Go Go.RowKit Dig

theorem decP_text (n : Int) (d : Nat) : decP (decT n d) d = intZ n := by
  obtain ⟨k, hk, hp, hn, hs⟩ := decT_shp n d
  rw [decP_eq, if_neg (by omega), if_pos hs, show d - plc (decT n d) = k by omega, hn]
theorem parseD_text {n : Int} {d : Nat} (h0 : -9223372036854775808 ≤ n) (h1 : n ≤ 9223372036854775807) (hd : d ≤ 18) : parseD (decT n d) (d : Int) = (n, 0) := by
  unfold parseD
  rw [if_pos ⟨by omega, by omega⟩, Int.toNat_natCast, decP_text, intZ, if_pos ⟨h0, h1⟩]
theorem textD_nat (n : Int) {d : Nat} (hd : d ≤ 18) : textD n (d : Int) = (decT n d, 0) := by
  unfold textD
  rw [if_pos ⟨by omega, by omega⟩, Int.toNat_natCast]
theorem text_small {n : Int} {d : Nat} {t : ByteArray} (ht : t.data.toList = decT n d) (h0 : -9223372036854775808 ≤ n) (h1 : n ≤ 9223372036854775807) (hd : d ≤ 18) : t.size ≤ 100 := by
  rw [Lib.size_eq, ht]
  exact decT_size (by omega) hd
theorem mod_small (d : Int) {k : Int} (hk : 0 < k) (hk2 : k ≤ 1000000) : ∃ D : Nat, wrap64 ((IntKind.u64.wrap d).tmod k) = (D : Int) ∧ (D : Int) < k := by
  have h1 : 0 ≤ d % 18446744073709551616 := Int.emod_nonneg _ (by decide)
  have h2 := Int.tmod_eq_emod_of_nonneg (a := d % 18446744073709551616) (b := k) h1
  have h3 := Int.emod_nonneg (d % 18446744073709551616) (show k ≠ 0 by omega)
  have h4 := Int.emod_lt_of_pos (d % 18446744073709551616) hk
  refine ⟨(d % 18446744073709551616 % k).toNat, ?_, by omega⟩
  rw [u64_mod, h2, IntWalk.wrap64_in _ (by omega)]
  omega
set_option linter.unusedVariables false in
set_option maxRecDepth 100000 in
set_option maxHeartbeats 4000000 in
theorem DecBack_any (w : World) (G : Glob w) (M : MaxL w) (n : Int) (hn0 : -9223372036854775808 ≤ n) (hn1 : n ≤ 9223372036854775807) (d : Int) (hd0 : -9223372036854775808 ≤ d) (hd1 : d ≤ 9223372036854775807) :
    Calls Tryz.prog 6 #[.int .i64 n, .int .i64 d] w fun e w' => Below w.heap.size w w' ∧ e = .returned (.bool true) := by
  obtain ⟨D, hD, hD2⟩ := mod_small d (k := 18) (by decide) (by decide); have HDD := Lib.hid hD; clear hD
  have hDl : D ≤ 17 := by omega
  clear hD2
  go_enter Tryz.func6, Tryz.ntmps6
  go_wp2_with fail
  refine (worksD_any _ G M).mono ?_
  rintro e w1 ⟨hb1, rfl⟩
  have B2 := Lib.hid hb1
  have z2 := B2.out.size
  clear hb1
  go_upto_region 4 with (fail)
  rw [HDD.out]
  go_wp2
  go_loopw [21] (fun iv wr => ∃ o : Nat, o ≤ 3 ∧ iv = .int .i64 o ∧ Hid (Below w.heap.size w wr)) (fun iv _ => 3 - (intOf iv).toNat)
  case atStart => exact ⟨0, Nat.zero_le _, rfl, B2⟩
  case round =>
    obtain ⟨o, hon, rfl, HBo⟩ := hrel
    obtain ⟨wo, hwo⟩ : ∃ x : World, x = wr := ⟨_, rfl⟩; subst hwo
    by_cases hlt : o < 3
    · skip
      have hlti : (o : Int) < 3 := by omega
      obtain ⟨m, hm, hidx⟩ := idxT3 n (n / 1048576) (n / 1099511627776) o hlt
      have hm0 : -9223372036854775808 ≤ m := by omega
      have hm1 : m ≤ 9223372036854775807 := by omega
      clear hm
      go_wp2_with fail
      refine (DText_lit (textD_nat m (d := D) (by omega)) hm0 hm1 (by omega) (by omega) (G.step HBo.out)).mono ?_
      rintro e w3 ⟨hb3, t, rfl, ht⟩
      have B4 := Lib.hid hb3
      have z4 := B4.out.size
      have HB5 := Lib.hid (HBo.out.trans (B4.out.mono HBo.out.size))
      clear hb3
      have HTS := Lib.hid (text_small ht hm0 hm1 (by omega)); have HT := Lib.hid ht; clear ht hidx
      go_wp2_with fail
      refine (saysD_new _ (m)).mono ?_
      rintro e w7 ⟨hb7, N6, rfl, hN6⟩
      have B8 := Lib.hid hb7
      have z8 := B8.out.size
      have HB9 := Lib.hid (HB5.out.trans (B8.out.mono HB5.out.size))
      clear hb7
      go_wp2_with fail
      refine (DParse_lit (s := t) (d := (D : Int)) (n := m) (c := 0) (by rw [HT.out]; exact parseD_text hm0 hm1 (by omega)) (by have := HTS.out; omega) (by omega) (by omega) (G.step HB9.out) (M.step HB9.out)).mono ?_
      rintro e w10 ⟨hb10, rfl⟩
      have B11 := Lib.hid hb10
      have z11 := B11.out.size
      have HB12 := Lib.hid (HB9.out.trans (B11.out.mono HB9.out.size))
      clear hb10
      have LN_13 := One.step hN6 B11.out
      go_wp2_with fail
      refine (saysD_yes LN_13).mono ?_
      rintro e w14 ⟨hb14, rfl⟩
      have B15 := Lib.hid hb14
      have z15 := B15.out.size
      have HB16 := Lib.hid (HB12.out.trans (B15.out.mono HB12.out.size))
      clear hb14
      clear LN_13
      by_cases hbig : 576460752303423488 < m
      · skip
        go_wp2
        go_roundw
        case rel => exact ⟨o + 1, by omega, by go_num, Lib.hid HB16.out⟩
        case measure => simp [intOf]; omega
      · by_cases hsm : m < -576460752303423488
        · skip
          go_wp2
          go_roundw
          case rel => exact ⟨o + 1, by omega, by go_num, Lib.hid HB16.out⟩
          case measure => simp [intOf]; omega
        · skip
          have h10a : -9223372036854775808 ≤ 10 * m := by omega
          have h10b : 10 * m ≤ 9223372036854775807 := by omega
          have HTT := Lib.hid (show decT (10 * m) (D + 1) = decT m D by rw [Int.mul_comm]; exact decT_ten m D)
          go_wp2_with fail
          refine (isD_new _ t).mono ?_
          rintro e w18 ⟨hb18, N17, rfl, hN17⟩
          have B19 := Lib.hid hb18
          have z19 := B19.out.size
          have HB20 := Lib.hid (HB16.out.trans (B19.out.mono HB16.out.size))
          clear hb18
          go_wp2_with fail
          refine (DText_lit (n := 10 * m) (d := (D : Int) + 1) (textD_nat (10 * m) (d := D + 1) (by omega)) h10a h10b (by omega) (by omega) (G.step HB20.out)).mono ?_
          rintro e w21 ⟨hb21, t2, rfl, ht2⟩
          have B22 := Lib.hid hb21
          have z22 := B22.out.size
          have HB23 := Lib.hid (HB20.out.trans (B22.out.mono HB20.out.size))
          clear hb21
          have LN_24 := One.step hN17 B22.out
          go_wp2_with fail
          refine (isD_yes LN_24 (by rw [ht2, HTT.out, HT.out])).mono ?_
          rintro e w25 ⟨hb25, rfl⟩
          have B26 := Lib.hid hb25
          have z26 := B26.out.size
          have HB27 := Lib.hid (HB23.out.trans (B26.out.mono HB23.out.size))
          clear hb25
          clear LN_24 ht2
          go_wp2_with fail
          refine (saysD_new _ (10 * m)).mono ?_
          rintro e w29 ⟨hb29, N28, rfl, hN28⟩
          have B30 := Lib.hid hb29
          have z30 := B30.out.size
          have HB31 := Lib.hid (HB27.out.trans (B30.out.mono HB27.out.size))
          clear hb29
          go_wp2_with fail
          refine (DParse_lit (s := t) (d := (D : Int) + 1) (n := 10 * m) (c := 0) (by rw [HT.out]; exact (by rw [← HTT.out]; exact parseD_text (d := D + 1) h10a h10b (by omega))) (by have := HTS.out; omega) (by omega) (by omega) (G.step HB31.out) (M.step HB31.out)).mono ?_
          rintro e w32 ⟨hb32, rfl⟩
          have B33 := Lib.hid hb32
          have z33 := B33.out.size
          have HB34 := Lib.hid (HB31.out.trans (B33.out.mono HB31.out.size))
          clear hb32
          have LN_35 := One.step hN28 B33.out
          go_wp2_with fail
          refine (saysD_yes LN_35).mono ?_
          rintro e w36 ⟨hb36, rfl⟩
          have B37 := Lib.hid hb36
          have z37 := B37.out.size
          have HB38 := Lib.hid (HB34.out.trans (B37.out.mono HB34.out.size))
          clear hb36
          clear LN_35
          go_wp2
          go_roundw
          case rel => exact ⟨o + 1, by omega, by go_num, Lib.hid HB38.out⟩
          case measure => simp [intOf]; omega
    · obtain rfl : o = 3 := by omega
      go_wp2
      go_ret
      exact ⟨HBo.out, rfl⟩
end Go.Proofs.YtfklkphoplpebaaGreatDoor
