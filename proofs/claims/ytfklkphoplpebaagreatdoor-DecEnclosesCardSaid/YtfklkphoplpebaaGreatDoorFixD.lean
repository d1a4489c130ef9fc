/- fix.signed and fix.FromDec at this translation. -/
import Derived.Test.YtfklkphoplpebaaGreatDoorFixC
namespace Go.Proofs.YtfklkphoplpebaaGreatDoor
open Go Go.RowKit Dig

/-- The function that fix.FromDec makes: the number lies in block b, the digits in block c. -/
def decV (b c : Nat) : Value := .func (.func 67) #[] #[.pointer (some ⟨b, 0, none⟩), .pointer (some ⟨c, 0, none⟩)]
set_option maxRecDepth 100000 in
theorem FSigned_any (w : World) (neg up g : Bool) (hg : (up != neg) = g) (b c : Nat) (r : Nat) (hr : r ≤ 4503599627370496)
    (hc : ∀ w' : World, Below w.heap.size w w' → Calls Tryz.prog 67 #[.bool g, .pointer (some ⟨b, 0, none⟩), .pointer (some ⟨c, 0, none⟩)] w' fun e w2 => Below w'.heap.size w' w2 ∧ e = .returned (.tuple #[.int .u64 (r : Int), .bool true])) :
    Calls Tryz.prog 66 #[.bool neg, .bool up, decV b c] w fun e w' => Below w.heap.size w w' ∧ e = .returned (.tuple #[.int .i64 (if neg then -(r : Int) else r), .int .i64 0]) := by
  have HC := Lib.hid hc; clear hc
  rw [decV]
  have hi : ¬ (4503599627370496 < (r : Int)) := by omega
  obtain ⟨z, hz⟩ : ∃ z : Int, z = if neg then -(r : Int) else r := ⟨_, rfl⟩
  rw [← hz]
  have HZ := Lib.hid hz; clear hz
  cases neg <;> cases up <;> (simp at hg; subst hg)
  all_goals
    go_enter Tryz.func66, Tryz.ntmps66
    go_wp2_with fail
    refine (HC.out _ (Below.refl _ _)).mono ?_
    rintro e w1 ⟨hb, rfl⟩
    have HB := Lib.hid hb; clear hb
    go_wp2_with fail
    go_ret2
    exact ⟨HB.out, by rw [HZ.out]; rfl⟩

/-- What fix.FromDec computes. -/
def decZ (n : Int) (d : Nat) (up : Bool) : Int := if n < 0 then -((rup (n.natAbs * 4294967296) (10 ^ d) (up != true) : Nat) : Int) else ((rup (n.natAbs * 4294967296) (10 ^ d) up : Nat) : Int)
theorem rup_le {m d : Nat} (hd : 0 < d) (hm : m ≤ 1048576 * d) (a : Bool) : rup (m * 4294967296) d a ≤ 4503599627370496 := by
  have h := Nat.div_add_mod (m * 4294967296) d
  have h1 : d * (m * 4294967296 / d) ≤ d * 4503599627370496 := by omega
  have h2 := Nat.le_of_mul_le_mul_left h1 hd
  unfold rup
  split
  · rename_i hc
    have h3 : d * (m * 4294967296 / d) < d * 4503599627370496 := by omega
    have h4 := Nat.lt_of_mul_lt_mul_left h3
    omega
  · exact h2
/-- The cells of fix.FromDec's row of two, behind i rounds. -/
def bothC (n : Int) (d i : Nat) : Array Value := #[if 0 < i then .int .i64 (decZ n d false) else .int .i64 0, if 1 < i then .int .i64 (decZ n d true) else .int .i64 0]
set_option maxRecDepth 100000 in
set_option maxHeartbeats 4000000 in
theorem FDec_any (w : World) (n : Int) (d : Nat) (hd : d ≤ 12) (h1 : -9223372036854775808 ≤ n) (h2 : n < 9223372036854775808) (hn : n.natAbs ≤ 1048576 * 10 ^ d) (T : Powers w) :
    Calls Tryz.prog 31 #[.int .i64 n, .int .i64 (d : Int)] w fun e w' => Below w.heap.size w w' ∧ e = .returned (.tuple #[.int .i64 (decZ n d false), .int .i64 (decZ n d true), .int .i64 0]) := by
  have hc : ∀ (w' : World) (b c : Nat) (up : Bool), One w' b 3 (.int .i64 n) → One w' c 3 (.int .i64 (d : Int)) → Below w.heap.size w w' → Calls Tryz.prog 66 #[.bool (decide (n < 0)), .bool up, .func (.func 67) #[] #[.pointer (some ⟨b, 0, none⟩), .pointer (some ⟨c, 0, none⟩)]] w' fun e w2 => Below w'.heap.size w' w2 ∧ e = .returned (.tuple #[.int .i64 (decZ n d up), .int .i64 0]) := fun w' b c up ob oc hb => by
    have hp := Nat.pow_pos (n := d) (show 0 < 10 by omega)
    refine (FSigned_any w' (decide (n < 0)) up _ rfl b c (rup (n.natAbs * 4294967296) (10 ^ d) (up != decide (n < 0))) (rup_le hp hn _) (fun w2 hb2 => FDec1_any w2 b c n d hd h1 h2 hn (ob.step hb2) (oc.step hb2) ((T.step hb).step hb2) _)).mono ?_
    rintro e w2 ⟨hb2, rfl⟩
    refine ⟨hb2, ?_⟩
    unfold decZ
    by_cases h : n < 0
    · simp [h]
    · cases up <;> simp [h]
  have HC := Lib.hid hc; clear hc
  have HIN := Lib.hid (show Below w.heap.size w (((w.alloc (.cells #[.int .i64 n] 3)).alloc (.cells #[.int .i64 (d : Int)] 3)).alloc (.cells #[.int .i64 0, .int .i64 0] 25)) ∧ One (((w.alloc (.cells #[.int .i64 n] 3)).alloc (.cells #[.int .i64 (d : Int)] 3)).alloc (.cells #[.int .i64 0, .int .i64 0] 25)) w.heap.size 3 (.int .i64 n) ∧ One (((w.alloc (.cells #[.int .i64 n] 3)).alloc (.cells #[.int .i64 (d : Int)] 3)).alloc (.cells #[.int .i64 0, .int .i64 0] 25)) (w.heap.size + 1) 3 (.int .i64 (d : Int)) ∧ CB (((w.alloc (.cells #[.int .i64 n] 3)).alloc (.cells #[.int .i64 (d : Int)] 3)).alloc (.cells #[.int .i64 0, .int .i64 0] 25)) (w.heap.size + 2) 25 (bothC n d 0) by
    have e0 := One.new w 3 (.int .i64 n)
    have e1 := One.new (w.alloc (.cells #[.int .i64 n] 3)) 3 (.int .i64 (d : Int))
    rw [show (w.alloc (.cells #[.int .i64 n] 3)).heap.size = w.heap.size + 1 by simp] at e1
    have e2 := CB.new ((w.alloc (.cells #[.int .i64 n] 3)).alloc (.cells #[.int .i64 (d : Int)] 3)) 25 #[.int .i64 0, .int .i64 0]
    rw [show ((w.alloc (.cells #[.int .i64 n] 3)).alloc (.cells #[.int .i64 (d : Int)] 3)).heap.size = w.heap.size + 2 by simp] at e2
    exact ⟨((Below.refl w.heap.size w).alloc (Nat.le_refl _) _ |>.alloc (by simp) _).alloc (by simp; omega) _, (e0.alloc _).alloc _, e1.alloc _, e2⟩)
  have hd0 : ¬ (d : Int) < 0 := by omega
  have hd1 : ¬ (13 : Int) ≤ (d : Int) := by omega
  clear T hn h1 h2 hd
  go_enter Tryz.func31, Tryz.ntmps31
  go_upto_block 0 with (fail)
  go_wp2
  go_loopw [16, 6] (fun iv ev wr => ∃ i : Nat, i ≤ 2 ∧ iv = .int .i64 (i : Int) ∧ ev = .int .i64 0 ∧ Hid (Below w.heap.size w wr) ∧ Hid (One wr w.heap.size 3 (.int .i64 n)) ∧ Hid (One wr (w.heap.size + 1) 3 (.int .i64 (d : Int))) ∧ Hid (CB wr (w.heap.size + 2) 25 (bothC n d i))) (fun iv _ _ => 2 - (intOf iv).toNat)
  case atStart => exact ⟨0, by omega, rfl, rfl, Lib.hid HIN.out.1, Lib.hid HIN.out.2.1, Lib.hid HIN.out.2.2.1, Lib.hid HIN.out.2.2.2⟩
  case round =>
    obtain ⟨i, hi, rfl, rfl, HB, H0, H1, H2⟩ := hrel
    clear HIN
    have q0 := H0.out.cell; have q1 := H1.out.cell; have q2 := H2.out.lt; have q3 := H2.out.frozen 0; have q4 := H2.out.frozen 1
    rcases (show i = 0 ∨ i = 1 ∨ i = 2 by omega) with rfl | rfl | rfl
    · have J : CB wr (w.heap.size + 2) 25 #[.int .i64 0, .int .i64 0] := H2.out
      have q5 := J.cell 0 rfl; have q6 := J.cell 1 rfl
      go_wp2_with fail
      refine (HC.out _ _ _ false H0.out H1.out HB.out).mono ?_
      rintro e w1 ⟨hb, rfl⟩
      have K2 := J.step hb; clear J
      have K0 := Lib.hid (H0.out.step hb); have K1 := Lib.hid (H1.out.step hb)
      have KB := Lib.hid (HB.out.trans (hb.mono HB.out.size))
      clear q0 q1 q2 q3 q4 q5 q6 hb
      have q2 := K2.lt; have q3 := K2.frozen 0; have q5 := K2.cell 0 rfl
      have HK2 := Lib.hid K2; clear K2
      go_wp2_with fail
      go_roundw
      case rel =>
        refine ⟨1, by omega, rfl, rfl, Lib.hid (below_set1 KB.out (by omega) _ _), Lib.hid (K0.out.far (show w.heap.size ≠ w.heap.size + 2 by omega) _), Lib.hid (K1.out.far (show w.heap.size + 1 ≠ w.heap.size + 2 by omega) _), Lib.hid (HK2.out.put 0 _)⟩
      case measure => decide
    · have J : CB wr (w.heap.size + 2) 25 #[.int .i64 (decZ n d false), .int .i64 0] := H2.out
      have q5 := J.cell 0 rfl; have q6 := J.cell 1 rfl
      go_wp2_with fail
      refine (HC.out _ _ _ true H0.out H1.out HB.out).mono ?_
      rintro e w1 ⟨hb, rfl⟩
      have K2 := J.step hb; clear J
      have K0 := Lib.hid (H0.out.step hb); have K1 := Lib.hid (H1.out.step hb)
      have KB := Lib.hid (HB.out.trans (hb.mono HB.out.size))
      clear q0 q1 q2 q3 q4 q5 q6 hb
      have q2 := K2.lt; have q3 := K2.frozen 1; have q5 := K2.cell 1 rfl
      have HK2 := Lib.hid K2; clear K2
      go_wp2_with fail
      go_roundw
      case rel =>
        refine ⟨2, by omega, rfl, rfl, Lib.hid (below_set1 KB.out (by omega) _ _), Lib.hid (K0.out.far (show w.heap.size ≠ w.heap.size + 2 by omega) _), Lib.hid (K1.out.far (show w.heap.size + 1 ≠ w.heap.size + 2 by omega) _), Lib.hid (HK2.out.put 1 _)⟩
      case measure => decide
    · have J : CB wr (w.heap.size + 2) 25 #[.int .i64 (decZ n d false), .int .i64 (decZ n d true)] := H2.out
      have q5 := J.cell 0 rfl; have q6 := J.cell 1 rfl
      go_upto_region 11 with (fail)
      clear J
      go_quiet (fail)
      go_wp2
      go_ret3
      exact ⟨below_drewN HB.out _, rfl⟩
/-- Rounding down and up, between whole numbers. -/
theorem rup_false (N d : Nat) : rup N d false = N / d := by simp [rup]
theorem rup_true_le {N d v : Nat} (hd : 0 < d) (h : N ≤ v * d) : rup N d true ≤ v := by
  unfold rup
  have h1 := Nat.div_add_mod N d
  split
  · rename_i hc
    have h3 : d * (N / d) < d * v := by rw [Nat.mul_comm d v]; omega
    have h4 := Nat.lt_of_mul_lt_mul_left h3
    omega
  · rw [Nat.div_le_iff_le_mul_add_pred hd] at *; rw [Nat.mul_comm d v]; omega
theorem le_rup_true {N d v : Nat} (hd : 0 < d) (h : v * d ≤ N) : v ≤ rup N d true := by
  have := (Nat.le_div_iff_mul_le hd).2 h
  unfold rup
  split <;> omega
theorem rup_div_le {N d v : Nat} (h : N ≤ v * d) : N / d ≤ v := Nat.div_le_of_le_mul (by rw [Nat.mul_comm]; exact h)
/-- Whoever lies below the number, in the places, has a rounding up below it. -/
theorem decZ_up_le {n v : Int} {d : Nat} (h : n * 4294967296 ≤ v * ((10 ^ d : Nat) : Int)) : decZ n d true ≤ v := by
  have hp := Nat.pow_pos (n := d) (show 0 < 10 by omega)
  unfold decZ
  generalize 10 ^ d = P at *
  by_cases hn : n < 0
  · rw [if_pos hn, show (true != true) = false from rfl, rup_false]
    rcases Int.le_total 0 v with hv | hv
    · generalize n.natAbs * 4294967296 / P = q; omega
    obtain ⟨k, rfl⟩ : ∃ k : Nat, v = -(k : Int) := ⟨(-v).toNat, by omega⟩
    have h2 : k * P ≤ n.natAbs * 4294967296 := by
      rw [Int.neg_mul, ← Int.natCast_mul] at h
      omega
    have := (Nat.le_div_iff_mul_le hp).2 h2
    omega
  · rw [if_neg hn]
    have hv : 0 ≤ v := by
      refine Int.not_lt.1 fun hv => ?_
      have := Int.mul_neg_of_neg_of_pos hv (show (0 : Int) < (P : Int) by omega)
      omega
    obtain ⟨k, rfl⟩ : ∃ k : Nat, v = (k : Int) := ⟨v.toNat, by omega⟩
    have h2 : n.natAbs * 4294967296 ≤ k * P := by
      rw [← Int.natCast_mul] at h
      omega
    have := rup_true_le hp h2
    omega
theorem le_decZ_down {n v : Int} {d : Nat} (h : v * ((10 ^ d : Nat) : Int) ≤ n * 4294967296) : v ≤ decZ n d false := by
  have hp := Nat.pow_pos (n := d) (show 0 < 10 by omega)
  unfold decZ
  generalize 10 ^ d = P at *
  by_cases hn : n < 0
  · rw [if_pos hn, show (false != true) = true from rfl]
    have hv : v < 0 := by
      refine Int.not_le.1 fun hv => ?_
      have := Int.mul_nonneg hv (show (0 : Int) ≤ (P : Int) by omega)
      omega
    obtain ⟨k, rfl⟩ : ∃ k : Nat, v = -(k : Int) := ⟨(-v).toNat, by omega⟩
    have h2 : n.natAbs * 4294967296 ≤ k * P := by
      rw [Int.neg_mul, ← Int.natCast_mul] at h
      omega
    have := rup_true_le hp h2
    omega
  · rw [if_neg hn, rup_false]
    rcases Int.le_total v 0 with hv | hv
    · generalize n.natAbs * 4294967296 / P = q; omega
    obtain ⟨k, rfl⟩ : ∃ k : Nat, v = (k : Int) := ⟨v.toNat, by omega⟩
    have h2 : k * P ≤ n.natAbs * 4294967296 := by
      rw [← Int.natCast_mul] at h
      omega
    have := (Nat.le_div_iff_mul_le hp).2 h2
    omega
end Go.Proofs.YtfklkphoplpebaaGreatDoor
