/- math/bits.Div64 at this translation (written by gen_div64.py). -/
import Derived.Test.YtfklkphoplpebaaGreatDoorShelf2
import Derived.Test.YtfklkphoplpebaaGreatDoorDivP
import Derived.Deep.CutBlock
namespace Go.Proofs.YtfklkphoplpebaaGreatDoor
open Go Go.RowKit Dig

set_option linter.unusedSimpArgs false in
set_option maxRecDepth 100000 in
set_option maxHeartbeats 4000000 in
theorem Div64_any (w : World) (hi lo y : Nat) (hlo : lo < 18446744073709551616) (hy : y < 18446744073709551616) (hlt : hi < y) :
    Calls Tryz.prog 104 #[.int .u64 (hi : Int), .int .u64 (lo : Int), .int .u64 (y : Int)] w fun e w' => Below w.heap.size w w' ∧ e = .returned (.tuple #[.int .u64 (((hi * 18446744073709551616 + lo) / y : Nat) : Int), .int .u64 (((hi * 18446744073709551616 + lo) % y : Nat) : Int)]) := by
  have hy0 : ((y : Int) == 0) = false := by rw [beq_eq_false_iff_ne]; omega
  have hyn : ((y : Int) = 0) = False := eq_false (by omega)
  have hle : ¬ (y : Int) ≤ (hi : Int) := by omega
  by_cases hz : hi = 0
  · subst hz
    have hz0 : (((0 : Nat) : Int) == 0) = true := rfl
    have hd : IntKind.u64.wrap ((lo : Int).tdiv (y : Int)) = ((lo / y : Nat) : Int) := by
      rw [show (lo : Int).tdiv (y : Int) = ((lo / y : Nat) : Int) from rfl]
      have h := Nat.div_le_self lo y
      generalize lo / y = z at *
      exact IntWalk.u64_in _ (by omega)
    have hm : (lo : Int).tmod (y : Int) = ((lo % y : Nat) : Int) := rfl
    have hm2 : IntKind.u64.wrap ((lo % y : Nat) : Int) = ((lo % y : Nat) : Int) := by
      have h := Nat.mod_le lo y
      generalize lo % y = z at *
      exact IntWalk.u64_in _ (by omega)
    have HF := Lib.hid (show (0 * 18446744073709551616 + lo) = lo by omega)
    rw [HF.out]
    go_enter Tryz.func104, Tryz.ntmps104
    go_upto_region 6 with (fail)
    go_region_with (fail)
    all_goals
      simp only [Exit.then, Act.put, List.getElem_toArray, List.getElem_cons_zero, List.getElem_cons_succ, List.setIfInBounds_toArray, List.set_cons_zero, List.set_cons_succ]
      go_wp2
      go_ret2
      exact ⟨below_drew1 (Below.refl _ _), by rw [show IntKind.u64.wrap ((lo : Int) / (y : Int)) = ((lo / y : Nat) : Int) from hd]; rfl⟩
  · have hz0 : ((hi : Int) == 0) = false := by rw [beq_eq_false_iff_ne]; omega
    obtain ⟨s, hs, hsl, hY0, hY1⟩ := lead_shift (y := y) (by omega) hy
    obtain ⟨hN, hx⟩ := norm_whole (hi := hi) (lo := lo) (s := s) hlo hs
    obtain ⟨S, hS⟩ : ∃ S : Nat, S = 2 ^ s := ⟨_, rfl⟩
    have hS0 : 0 < S := by rw [hS]; exact Nat.pow_pos (by omega)
    have hSi : (2 : Int) ^ s = (S : Int) := by rw [hS]; simp
    obtain ⟨x, hxe⟩ : ∃ x : Nat, x = lo / 2 ^ (64 - s) := ⟨_, rfl⟩
    have hfl : (lo : Int) / 2 ^ (64 - s) = (x : Int) := by rw [hxe]; simp
    have hor := or_disjoint (a := hi) (b := x) (s := s) (by rw [hxe]; exact hx)
    rw [← hxe, ← hS] at hN
    rw [← hS] at hY0 hY1 hx hor
    rw [← hxe] at hx
    obtain ⟨Y, hY⟩ : ∃ Y, Y = y * S := ⟨_, rfl⟩
    obtain ⟨H, hH⟩ : ∃ H, H = hi * S := ⟨_, rfl⟩
    obtain ⟨T, hT⟩ : ∃ T, T = lo * S % 2 ^ 64 := ⟨_, rfl⟩
    rw [← hY] at hY0 hY1
    rw [← hH] at hN hor
    rw [← hT] at hN
    have hHY : H + S ≤ Y := by rw [hH, hY, ← Nat.succ_mul]; exact Nat.mul_le_mul_right _ hlt
    have hT64 : T < 18446744073709551616 := by rw [hT]; exact Nat.mod_lt _ (by decide)
    have hfY : IntKind.u64.wrap ((y : Int) * (S : Int)) = (Y : Int) := by rw [hY, Int.natCast_mul]; exact IntWalk.u64_in _ (by rw [← Int.natCast_mul, ← hY]; omega)
    have hfH : IntKind.u64.wrap ((hi : Int) * (S : Int)) = (H : Int) := by rw [hH, Int.natCast_mul]; exact IntWalk.u64_in _ (by rw [← Int.natCast_mul, ← hH]; omega)
    have hfT : IntKind.u64.wrap ((lo : Int) * (S : Int)) = (T : Int) := by rw [hT, u64_mod, ← Int.natCast_mul]; rfl
    obtain ⟨U, hU⟩ : ∃ U, U = H + x := ⟨_, rfl⟩
    have hUY0 : U < Y := by omega
    have hfU : bits .or .u64 (H : Int) (x : Int) = (U : Int) := by rw [bits_or_u64_nat H x (by omega) (by omega), hor, hU]
    obtain ⟨y1, hy1⟩ : ∃ y1, y1 = Y / 4294967296 := ⟨_, rfl⟩
    obtain ⟨y0, hyy0⟩ : ∃ y0, y0 = Y % 4294967296 := ⟨_, rfl⟩
    obtain ⟨t1, ht1⟩ : ∃ t1, t1 = T / 4294967296 := ⟨_, rfl⟩
    obtain ⟨t0, ht0⟩ : ∃ t0, t0 = T % 4294967296 := ⟨_, rfl⟩
    have mask : ∀ a : Nat, a < 18446744073709551616 → bits .and .u64 (a : Int) 4294967295 = ((a % 4294967296 : Nat) : Int) := fun a ha => by
      have h := bits_and_u64_nat a 4294967295 ha (by decide)
      rw [show ((4294967295 : Nat) : Int) = 4294967295 from rfl] at h
      rw [h]; congr 1
      exact Nat.and_two_pow_sub_one_eq_mod a 32
    have hfy1 : (Y : Int) / 4294967296 = (y1 : Int) := by omega
    have hft1 : (T : Int) / 4294967296 = (t1 : Int) := by omega
    have hfy0 : bits .and .u64 (Y : Int) 4294967295 = (y0 : Int) := by rw [mask Y (by omega), hyy0]
    have hft0 : bits .and .u64 (T : Int) 4294967295 = (t0 : Int) := by rw [mask T hT64, ht0]
    have hYY : Y = y1 * 4294967296 + y0 := by omega
    have hTT : T = t1 * 4294967296 + t0 := by omega
    have hy1n : ((y1 : Int) = 0) = False := eq_false (by omega)
    have rest : ∀ V : Nat, V < Y → ∃ qV rV : Nat, (y1 * qV + rV = V ∧ rV < 4294967296 ∧ qV ≤ 18446744073709551615 ∧ qV = V / y1) ∧ IntKind.u64.wrap ((V : Int) / (y1 : Int)) = (qV : Int) ∧ IntKind.u64.wrap ((V : Int) - IntKind.u64.wrap ((qV : Int) * (y1 : Int))) = (rV : Int) := fun V hV => by
      refine ⟨V / y1, V % y1, ⟨Nat.div_add_mod V y1, ?_, ?_, rfl⟩, ?_, ?_⟩
      · have := Nat.mod_lt V (show 0 < y1 by omega); omega
      · have := Nat.div_le_self V y1; omega
      · rw [← Int.natCast_ediv]
        have h := Nat.div_le_self V y1
        generalize V / y1 = z at *
        exact IntWalk.u64_in _ (by omega)
      have h := Nat.div_add_mod V y1
      have h2 : ((V / y1 : Nat) : Int) * (y1 : Int) = ((y1 * (V / y1) : Nat) : Int) := by rw [Int.natCast_mul, Int.mul_comm]
      rw [h2]
      generalize y1 * (V / y1) = p at *
      generalize V % y1 = m at *
      rw [IntWalk.u64_in (p : Int) (by omega), IntWalk.u64_in _ (by omega)]; omega
    obtain ⟨qU, rU, hDU, hfq, hfr⟩ := rest U hUY0
    have HDU := Lib.hid hDU; clear hDU
    have HS := Lib.hid hS; have HY := Lib.hid hY; have HN := Lib.hid hN; have HU := Lib.hid hU
    have HTT := Lib.hid hTT; have HYY := Lib.hid hYY; clear hYY
    have hb1 : y1 < 4294967296 := by omega
    have hb0 : y0 < 4294967296 := by omega
    have hbt1 : t1 < 4294967296 := by omega
    have hbt0 : t0 < 4294967296 := by omega
    have hb2 : 2147483648 ≤ y1 := by omega
    clear hS hY hN hU hTT hor hxe hx hT hH hHY mask hy1 hyy0 ht1 ht0
    go_enter Tryz.func104, Tryz.ntmps104
    go_wp2_with fail
    refine (Tryz.bits_LeadingZeros64 (y : Int) _ (by omega) (by omega)).mono ?_
    rintro e w1 ⟨rfl, hw⟩; rw [hw]; clear hw w1
    rw [show (64 - (Lib.bitLen (y : Int).toNat : Int)) = (s : Int) by rw [Int.toNat_natCast]; exact hsl]
    go_upto_block 0 with (fail)
    go_cut [15, 16] (fun qv rv wx => qv = .int .u64 (((U * 4294967296 + t1) / Y : Nat) : Int) ∧ (∃ r : Nat, rv = .int .u64 (r : Int)) ∧ wx = w)
    case first =>
      go_wp2
      go_loopw [15, 16] (fun qv rv wr => ∃ q r : Nat, qv = .int .u64 (q : Int) ∧ rv = .int .u64 (r : Int) ∧ q * y1 + r = U ∧ r < 4294967296 ∧ q ≤ 18446744073709551615 ∧ (U * 4294967296 + t1) / Y ≤ q ∧ wr = w) (fun qv _ _ => (intOf qv).toNat)
      case atStart => exact ⟨qU, rU, rfl, rfl, by have h := HDU.out; rw [Nat.mul_comm]; exact h.1, by have h := HDU.out; omega, by have h := HDU.out; omega, by have h := k_start (U := U) (y1 := y1) (y0 := y0) (t := t1) (by omega) (by omega); rw [← HYY.out, ← HDU.out.2.2.2] at h; exact h, rfl⟩
      case round =>
      obtain ⟨q, r, rfl, rfl, hqr, hr, hq64, hQ, rfl⟩ := hrel
      have hUY : U < y1 * 4294967296 + y0 := by have := HYY.out; omega
      have HQR := Lib.hid hqr; have HQQ := Lib.hid hQ; clear hqr hQ
      by_cases hqb : 4294967296 ≤ q
      · have hqi : (4294967296 : Int) ≤ (q : Int) := by omega
        have hdec := k_big hUY (by omega : t1 < 4294967296) HQR.out (.inl hqb)
        rw [← HYY.out] at hdec
        have hq1 : 1 ≤ q := Nat.pos_of_ne_zero fun h => by rw [h] at hdec; exact absurd hdec (Nat.not_lt_zero _)
        obtain ⟨q', hq'⟩ : ∃ q', q = q' + 1 := ⟨q - 1, by omega⟩
        have hqm : IntKind.u64.wrap ((q : Int) - 1) = (q' : Int) := by rw [IntWalk.u64_in _ (by omega)]; omega
        have hdl : (U * 4294967296 + t1) / Y ≤ q' := by omega
        have HDL := Lib.hid hdl; have HQ' := Lib.hid hq'; clear hdl hdec
        have hr2 : r + y1 < 18446744073709551616 := by omega
        have HN := Lib.hid (show q' * y1 + (r + y1) = U by have h := HQR.out; rw [hq', Nat.add_mul, Nat.one_mul] at h; omega)
        clear hq'
        by_cases hbr : 4294967296 ≤ r + y1
        · have hbi : (4294967296 : Int) ≤ (r : Int) + (y1 : Int) := by omega
          have hfin := k_break (t := t1) hUY (by omega) HN.out hbr (by rw [← HYY.out]; exact HDL.out)
          rw [← HYY.out] at hfin
          go_wp2; go_meet
          exact ⟨by rw [hfin], ⟨r + y1, by go_num⟩, rfl⟩
        · have hbi : ¬ (4294967296 : Int) ≤ (r : Int) + (y1 : Int) := by omega
          go_wp2; go_roundw
          case rel => exact ⟨q', r + y1, by go_num, by go_num, HN.out, by omega, by have h := HQ'.out; omega, HDL.out, by first | trivial | rfl⟩
          case measure => have h := HQ'.out; first | (simp [intOf]; omega) | (simp [intOf]; done) | (trace_state; fail)
      · have hqi : ¬ (4294967296 : Int) ≤ (q : Int) := by omega
        have hp : q * y0 ≤ 4294967295 * 4294967295 := Nat.mul_le_mul (by omega) (by omega)
        obtain ⟨p, hpe⟩ : ∃ p, p = q * y0 := ⟨_, rfl⟩; rw [← hpe] at hp; have HP := Lib.hid hpe
        have hwp : IntKind.u64.wrap ((q : Int) * (y0 : Int)) = (p : Int) := by rw [hpe, Int.natCast_mul]; exact IntWalk.u64_in _ (by rw [← Int.natCast_mul, ← hpe]; omega)
        clear hpe
        by_cases hgt : 4294967296 * r + t1 < p
        · have hgti : 4294967296 * (r : Int) + (t1 : Int) < (p : Int) := by omega
          have hdec := k_big hUY (by omega : t1 < 4294967296) HQR.out (.inr (by rw [← HP.out]; exact hgt))
          rw [← HYY.out] at hdec
          have hq1 : 1 ≤ q := Nat.pos_of_ne_zero fun h => by rw [h] at hdec; exact absurd hdec (Nat.not_lt_zero _)
          obtain ⟨q', hq'⟩ : ∃ q', q = q' + 1 := ⟨q - 1, by omega⟩
          have hqm : IntKind.u64.wrap ((q : Int) - 1) = (q' : Int) := by rw [IntWalk.u64_in _ (by omega)]; omega
          have hdl : (U * 4294967296 + t1) / Y ≤ q' := by omega
          have HDL := Lib.hid hdl; have HQ' := Lib.hid hq'; clear hdl hdec
          have hr2 : r + y1 < 18446744073709551616 := by omega
          have HN := Lib.hid (show q' * y1 + (r + y1) = U by have h := HQR.out; rw [hq', Nat.add_mul, Nat.one_mul] at h; omega)
          clear hq'
          by_cases hbr : 4294967296 ≤ r + y1
          · have hbi : (4294967296 : Int) ≤ (r : Int) + (y1 : Int) := by omega
            have hfin := k_break (t := t1) hUY (by omega) HN.out hbr (by rw [← HYY.out]; exact HDL.out)
            rw [← HYY.out] at hfin
            go_wp2; go_meet
            exact ⟨by rw [hfin], ⟨r + y1, by go_num⟩, rfl⟩
          · have hbi : ¬ (4294967296 : Int) ≤ (r : Int) + (y1 : Int) := by omega
            go_wp2; go_roundw
            case rel => exact ⟨q', r + y1, by go_num, by go_num, HN.out, by omega, by have h := HQ'.out; omega, HDL.out, by first | trivial | rfl⟩
            case measure => have h := HQ'.out; first | (simp [intOf]; omega) | (simp [intOf]; done) | (trace_state; fail)
        · have hgti : ¬ 4294967296 * (r : Int) + (t1 : Int) < (p : Int) := by omega
          have hfin := k_done (t := t1) hUY HQR.out (by rw [← HP.out]; omega) (by rw [← HYY.out]; exact HQQ.out)
          rw [← HYY.out] at hfin
          go_wp2
          go_meet
          exact ⟨by rw [hfin], ⟨r, rfl⟩, rfl⟩
    case rest =>
      obtain ⟨rfl, ⟨r0, rfl⟩, hw⟩ := hcut; rw [hw]; clear hw
      obtain ⟨Q1, hQ1⟩ : ∃ Q, Q = (U * 4294967296 + t1) / Y := ⟨_, rfl⟩
      obtain ⟨V, hV⟩ : ∃ V, V = (U * 4294967296 + t1) % Y := ⟨_, rfl⟩
      have hVY : V < Y := by rw [hV]; exact Nat.mod_lt _ (by omega)
      have hdm := Nat.div_add_mod (U * 4294967296 + t1) Y
      rw [← hQ1, ← hV] at hdm
      rw [← hQ1]
      have hfV : IntKind.u64.wrap (IntKind.u64.wrap (IntKind.u64.wrap ((U : Int) * 4294967296) + (t1 : Int)) - IntKind.u64.wrap ((Q1 : Int) * (Y : Int))) = (V : Int) := by
        have h2 : (Q1 : Int) * (Y : Int) = ((Y * Q1 : Nat) : Int) := by rw [Int.natCast_mul, Int.mul_comm]
        rw [h2]
        generalize Y * Q1 = p at *
        rw [wrap_sub (by omega) (by omega)]; omega
      obtain ⟨qV, rV, hDV, hfq2, hfr2⟩ := rest V hVY
      have HDV := Lib.hid hDV; clear hDV
      have HQ1 := Lib.hid hQ1; have HV := Lib.hid hV
      clear hQ1 hV hdm
      go_upto_block 2 with (fail)
      go_cut [18, 16] (fun qv rv wx => qv = .int .u64 (((V * 4294967296 + t0) / Y : Nat) : Int) ∧ (∃ r : Nat, rv = .int .u64 (r : Int)) ∧ wx = w)
      case first =>
        go_wp2
        go_loopw [18, 16] (fun qv rv wr => ∃ q r : Nat, qv = .int .u64 (q : Int) ∧ rv = .int .u64 (r : Int) ∧ q * y1 + r = V ∧ r < 4294967296 ∧ q ≤ 18446744073709551615 ∧ (V * 4294967296 + t0) / Y ≤ q ∧ wr = w) (fun qv _ _ => (intOf qv).toNat)
        case atStart => exact ⟨qV, rV, rfl, rfl, by have h := HDV.out; rw [Nat.mul_comm]; exact h.1, by have h := HDV.out; omega, by have h := HDV.out; omega, by have h := k_start (U := V) (y1 := y1) (y0 := y0) (t := t0) (by omega) (by omega); rw [← HYY.out, ← HDV.out.2.2.2] at h; exact h, rfl⟩
        case round =>
        obtain ⟨q, r, rfl, rfl, hqr, hr, hq64, hQ, rfl⟩ := hrel
        have hUY : V < y1 * 4294967296 + y0 := by have := HYY.out; omega
        have HQR := Lib.hid hqr; have HQQ := Lib.hid hQ; clear hqr hQ
        by_cases hqb : 4294967296 ≤ q
        · have hqi : (4294967296 : Int) ≤ (q : Int) := by omega
          have hdec := k_big hUY (by omega : t0 < 4294967296) HQR.out (.inl hqb)
          rw [← HYY.out] at hdec
          have hq1 : 1 ≤ q := Nat.pos_of_ne_zero fun h => by rw [h] at hdec; exact absurd hdec (Nat.not_lt_zero _)
          obtain ⟨q', hq'⟩ : ∃ q', q = q' + 1 := ⟨q - 1, by omega⟩
          have hqm : IntKind.u64.wrap ((q : Int) - 1) = (q' : Int) := by rw [IntWalk.u64_in _ (by omega)]; omega
          have hdl : (V * 4294967296 + t0) / Y ≤ q' := by omega
          have HDL := Lib.hid hdl; have HQ' := Lib.hid hq'; clear hdl hdec
          have hr2 : r + y1 < 18446744073709551616 := by omega
          have HN := Lib.hid (show q' * y1 + (r + y1) = V by have h := HQR.out; rw [hq', Nat.add_mul, Nat.one_mul] at h; omega)
          clear hq'
          by_cases hbr : 4294967296 ≤ r + y1
          · have hbi : (4294967296 : Int) ≤ (r : Int) + (y1 : Int) := by omega
            have hfin := k_break (t := t0) hUY (by omega) HN.out hbr (by rw [← HYY.out]; exact HDL.out)
            rw [← HYY.out] at hfin
            go_wp2; go_meet
            exact ⟨by rw [hfin], ⟨r + y1, by go_num⟩, rfl⟩
          · have hbi : ¬ (4294967296 : Int) ≤ (r : Int) + (y1 : Int) := by omega
            go_wp2; go_roundw
            case rel => exact ⟨q', r + y1, by go_num, by go_num, HN.out, by omega, by have h := HQ'.out; omega, HDL.out, by first | trivial | rfl⟩
            case measure => have h := HQ'.out; first | (simp [intOf]; omega) | (simp [intOf]; done) | (trace_state; fail)
        · have hqi : ¬ (4294967296 : Int) ≤ (q : Int) := by omega
          have hp : q * y0 ≤ 4294967295 * 4294967295 := Nat.mul_le_mul (by omega) (by omega)
          obtain ⟨p, hpe⟩ : ∃ p, p = q * y0 := ⟨_, rfl⟩; rw [← hpe] at hp; have HP := Lib.hid hpe
          have hwp : IntKind.u64.wrap ((q : Int) * (y0 : Int)) = (p : Int) := by rw [hpe, Int.natCast_mul]; exact IntWalk.u64_in _ (by rw [← Int.natCast_mul, ← hpe]; omega)
          clear hpe
          by_cases hgt : 4294967296 * r + t0 < p
          · have hgti : 4294967296 * (r : Int) + (t0 : Int) < (p : Int) := by omega
            have hdec := k_big hUY (by omega : t0 < 4294967296) HQR.out (.inr (by rw [← HP.out]; exact hgt))
            rw [← HYY.out] at hdec
            have hq1 : 1 ≤ q := Nat.pos_of_ne_zero fun h => by rw [h] at hdec; exact absurd hdec (Nat.not_lt_zero _)
            obtain ⟨q', hq'⟩ : ∃ q', q = q' + 1 := ⟨q - 1, by omega⟩
            have hqm : IntKind.u64.wrap ((q : Int) - 1) = (q' : Int) := by rw [IntWalk.u64_in _ (by omega)]; omega
            have hdl : (V * 4294967296 + t0) / Y ≤ q' := by omega
            have HDL := Lib.hid hdl; have HQ' := Lib.hid hq'; clear hdl hdec
            have hr2 : r + y1 < 18446744073709551616 := by omega
            have HN := Lib.hid (show q' * y1 + (r + y1) = V by have h := HQR.out; rw [hq', Nat.add_mul, Nat.one_mul] at h; omega)
            clear hq'
            by_cases hbr : 4294967296 ≤ r + y1
            · have hbi : (4294967296 : Int) ≤ (r : Int) + (y1 : Int) := by omega
              have hfin := k_break (t := t0) hUY (by omega) HN.out hbr (by rw [← HYY.out]; exact HDL.out)
              rw [← HYY.out] at hfin
              go_wp2; go_meet
              exact ⟨by rw [hfin], ⟨r + y1, by go_num⟩, rfl⟩
            · have hbi : ¬ (4294967296 : Int) ≤ (r : Int) + (y1 : Int) := by omega
              go_wp2; go_roundw
              case rel => exact ⟨q', r + y1, by go_num, by go_num, HN.out, by omega, by have h := HQ'.out; omega, HDL.out, by first | trivial | rfl⟩
              case measure => have h := HQ'.out; first | (simp [intOf]; omega) | (simp [intOf]; done) | (trace_state; fail)
          · have hgti : ¬ 4294967296 * (r : Int) + (t0 : Int) < (p : Int) := by omega
            have hfin := k_done (t := t0) hUY HQR.out (by rw [← HP.out]; omega) (by rw [← HYY.out]; exact HQQ.out)
            rw [← HYY.out] at hfin
            go_wp2
            go_meet
            exact ⟨by rw [hfin], ⟨r, rfl⟩, rfl⟩
      case rest =>
        obtain ⟨rfl, ⟨r2, rfl⟩, hw⟩ := hcut; rw [hw]; clear hw
        obtain ⟨Q0, hQ0⟩ : ∃ Q, Q = (V * 4294967296 + t0) / Y := ⟨_, rfl⟩
        obtain ⟨Z, hZ⟩ : ∃ V', V' = (V * 4294967296 + t0) % Y := ⟨_, rfl⟩
        have hZY : Z < Y := by rw [hZ]; exact Nat.mod_lt _ (by omega)
        have hdm := Nat.div_add_mod (V * 4294967296 + t0) Y
        have hQl1 := kq_lt (U := U) (t := t1) (by rw [← HYY.out]; exact hUY0) hbt1
        have hQl0 := kq_lt (U := V) (t := t0) (by rw [← HYY.out]; exact hVY) hbt0
        rw [← HYY.out] at hQl1 hQl0
        rw [← HQ1.out] at hQl1
        rw [← hQ0] at hQl0
        have hk := k_both (N0 := U * 4294967296 + t1) (N1 := V * 4294967296 + t0) (Y := Y) (U := U) (t1 := t1) (t0 := t0) (by omega) rfl (by rw [← HV.out])
        rw [← HQ1.out, ← hQ0, ← hZ, ← HTT.out] at hk
        have hNN : U * 18446744073709551616 + T = (hi * 18446744073709551616 + lo) * S := by have h := HN.out; rw [← HU.out] at h; exact h
        rw [hNN, HY.out, Nat.mul_div_mul_right _ _ hS0, Nat.mul_mod_mul_right] at hk
        rw [← hQ0, ← hZ] at hdm
        rw [← hQ0]
        have hfZ : IntKind.u64.wrap (IntKind.u64.wrap (IntKind.u64.wrap ((V : Int) * 4294967296) + (t0 : Int)) - IntKind.u64.wrap ((Q0 : Int) * (Y : Int))) = (Z : Int) := by
          have h2 : (Q0 : Int) * (Y : Int) = ((Y * Q0 : Nat) : Int) := by rw [Int.natCast_mul, Int.mul_comm]
          rw [h2]
          generalize Y * Q0 = p at *
          rw [wrap_sub (by omega) (by omega)]; omega
        have HR := Lib.hid (show (Z : Int) / (S : Int) = (((hi * 18446744073709551616 + lo) % y : Nat) : Int) by rw [← hk.2, Int.natCast_mul, Int.mul_ediv_cancel _ (by omega)])
        have HQF := Lib.hid hk.1
        clear hk hNN hdm hQ0 hZ
        go_wp2_with fail
        go_ret2
        refine ⟨Below.refl _ _, ?_⟩
        have h := HR.out; have h2 := HQF.out
        rw [h, show (Q1 : Int) * 4294967296 + (Q0 : Int) = (((hi * 18446744073709551616 + lo) / y : Nat) : Int) by rw [h2]; omega]
        rfl

end Go.Proofs.YtfklkphoplpebaaGreatDoor
