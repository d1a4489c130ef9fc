/- The reference's Text of layer 05. -/
import Derived.Test.YtfklkphoplpebaaGreatDoorRWritten
import Derived.Test.YtfklkphoplpebaaGreatDoorDecW
import Derived.Test.YtfklkphoplpebaaGreatDoorRefb
namespace Go.Proofs.YtfklkphoplpebaaGreatDoor
open Go Go.RowKit Dig

set_option maxRecDepth 100000 in
set_option maxHeartbeats 2000000 in
theorem RTextD_any (w : World) (n d : Int) (h0 : -9223372036854775808 ≤ n) (h1 : n ≤ 9223372036854775807) (hd0 : -9223372036854775808 ≤ d) (hd1 : d ≤ 9223372036854775807) :
    Calls Tryz.prog 13 #[.int .i64 n, .int .i64 d] w fun e w' => Below w.heap.size w w' ∧ ∃ t : ByteArray, e = .returned (.tuple #[.string t, .int .i64 (textD n d).2]) ∧ t.data.toList = (textD n d).1 := by
  by_cases hd : 0 ≤ d ∧ d ≤ 18
  · obtain ⟨k, rfl⟩ : ∃ k : Nat, d = (k : Int) := ⟨d.toNat, by omega⟩
    have HT := Lib.hid (show textD n (k : Int) = (decT n k, 0) by unfold textD; rw [if_pos hd, Int.toNat_natCast])
    rw [HT.out]
    have e1 : (0 : Int) ≤ (k : Int) := by omega
    have e2 : (k : Int) ≤ 18 := by omega
    have HK := Lib.hid (show k ≤ 18 by omega)
    have HL := Lib.hid (show (dig n.natAbs).length ≤ 1000 from Nat.le_trans (dig_len_le.2 (show n.natAbs < bp 3 by show _ < 1000000000000000000000000000; omega)) (by omega))
    clear hd
    go_enter Tryz.func13, Tryz.ntmps13
    go_wp2_with fail
    refine (ROf_any _ n h0 h1).mono ?_
    rintro e w1 ⟨hb1, v1, rfl, hv1⟩
    obtain ⟨n1, A1, l1, c1, rfl, hv1⟩ := hv1.opened
    have HB1 := Lib.hid hb1; have HV := Lib.hid hv1; clear hb1 hv1
    go_wp2_with fail
    refine (RWritten_any _ _ n HV.out HL.out k HK.out).mono ?_
    rintro e w2 ⟨hb2, t, rfl, ht⟩
    have HB2 := Lib.hid (HB1.out.trans (hb2.mono HB1.out.size)); clear hb2
    go_wp2
    go_ret2
    exact ⟨HB2.out, _, rfl, ht⟩
  · have HT := Lib.hid (show textD n d = ([], 2) by unfold textD; rw [if_neg hd])
    rw [HT.out]
    by_cases h : d < 0
    · clear hd
      go_enter Tryz.func13, Tryz.ntmps13
      go_wp2
      go_ret2
      exact ⟨Below.refl _ _, _, rfl, rfl⟩
    · have h2 : 18 < d := by omega
      clear hd
      go_enter Tryz.func13, Tryz.ntmps13
      go_wp2
      go_ret2
      exact ⟨Below.refl _ _, _, rfl, rfl⟩
end Go.Proofs.YtfklkphoplpebaaGreatDoor
