/- Fixed-point numbers at this translation: a size, a product of 128 bits, a rounded quotient. -/
import Derived.Test.YtfklkphoplpebaaGreatDoorDiv64
import Derived.Test.YtfklkphoplpebaaGreatDoorDecC
namespace Go.Proofs.YtfklkphoplpebaaGreatDoor
open Go Go.RowKit Dig

theorem FSize_any (w : World) (n : Int) (h1 : -9223372036854775808 ≤ n) (h2 : n < 9223372036854775808) : Calls Tryz.prog 70 #[.int .i64 n] w fun e w' => e = .returned (.int .u64 (n.natAbs : Int)) ∧ w' = w := by
  by_cases h : n < 0
  · have e1 : IntKind.u64.wrap (-(n + 1)) = -(n + 1) := IntWalk.u64_in _ (by omega)
    have e2 : ((n.natAbs : Nat) : Int) = -(n + 1) + 1 := by omega
    rw [e2]
    generalize hz : -(n + 1) = z at *
    have hz1 : 0 ≤ z := by omega
    have hz2 : z < 9223372036854775808 := by omega
    have hn : n = -1 - z := by omega
    subst hn
    have HZ := Lib.hid hz; clear hz
    go_enter Tryz.func70, Tryz.ntmps70
    go_wp2
    go_ret
    refine ⟨?_, rfl⟩
    rw [show z + 1 = -(-1 - z + 1) + 1 by omega]; rfl
  · have e1 : IntKind.u64.wrap n = n := IntWalk.u64_in _ (by omega)
    have e2 : ((n.natAbs : Nat) : Int) = n := by omega
    rw [e2]
    have h0 : 0 ≤ n := by omega
    go_enter Tryz.func70, Tryz.ntmps70
    go_wp2
    go_ret
    exact ⟨rfl, rfl⟩
theorem FProduct_any (w : World) (x y : Nat) (hx : x < 18446744073709551616) (hy : y < 18446744073709551616) : Calls Tryz.prog 69 #[.int .u64 (x : Int), .int .u64 (y : Int)] w fun e w' => Below w.heap.size w w' ∧ e = .returned (.agg #[.int .u64 ((x * y / 18446744073709551616 : Nat) : Int), .int .u64 ((x * y % 18446744073709551616 : Nat) : Int)]) := by
  go_enter Tryz.func69, Tryz.ntmps69
  go_wp2_with fail
  refine (Tryz.bits_Mul64 x y hx hy _).mono ?_
  rintro e w1 ⟨rfl, hw⟩; rw [hw]; clear hw w1
  obtain ⟨h, hh⟩ : ∃ h, h = x * y / 18446744073709551616 := ⟨_, rfl⟩
  obtain ⟨l, hl⟩ : ∃ l, l = x * y % 18446744073709551616 := ⟨_, rfl⟩
  rw [← hh, ← hl]
  have HH := Lib.hid hh; have HL := Lib.hid hl; clear hh hl
  go_wp2
  exact bodyPost_ret (results_cell_row rfl _ _ w.heap.size _ #[.int .u64 (h : Int), .int .u64 (l : Int)] (0, 0) _ rfl (CB.new w 101 _) Tryz.underlying101 rfl (by kernel_rfl)) rfl ⟨(Below.refl w.heap.size w).alloc (Nat.le_refl _) _, by rw [← HH.out, ← HL.out]⟩
/-- A quotient of numbers of any size, rounded up if that is asked for. -/
def rup (N d : Nat) (away : Bool) : Nat := if away = true ∧ 0 < N % d then N / d + 1 else N / d
theorem FQuotient_any (w : World) (hi lo d : Nat) (hlo : lo < 18446744073709551616) (hd : d < 18446744073709551616) (hlt : hi < d) (hq : (hi * 18446744073709551616 + lo) / d < 9223372036854775808) (away : Bool) : Calls Tryz.prog 68 #[.agg #[.int .u64 (hi : Int), .int .u64 (lo : Int)], .int .u64 (d : Int), .bool away] w fun e w' => Below w.heap.size w w' ∧ e = .returned (.tuple #[.int .u64 ((rup (hi * 18446744073709551616 + lo) d away : Nat) : Int), .bool true]) := by
  go_enter Tryz.func68, Tryz.ntmps68
  go_wp2_with fail
  refine (Div64_any _ hi lo d hlo hd hlt).mono ?_
  rintro e w1 ⟨hb, rfl⟩
  have HB := Lib.hid (((Below.refl w.heap.size w).alloc (Nat.le_refl _) (.cells #[.int .u64 (hi : Int), .int .u64 (lo : Int)] 101)).trans (hb.mono (by simp)))
  clear hb
  obtain ⟨q, hqe⟩ : ∃ q, q = (hi * 18446744073709551616 + lo) / d := ⟨_, rfl⟩
  obtain ⟨r, hre⟩ : ∃ r, r = (hi * 18446744073709551616 + lo) % d := ⟨_, rfl⟩
  rw [← hqe] at hq
  have RU := Lib.hid (show rup (hi * 18446744073709551616 + lo) d away = if away = true ∧ 0 < r then q + 1 else q by rw [rup, ← hqe, ← hre])
  rw [← hqe, ← hre]
  clear hqe hre
  cases away
  · go_wp2_with fail
    go_ret2
    exact ⟨HB.out, by rw [RU.out]; rfl⟩
  by_cases hr : 0 < r
  · have hri : 0 < (r : Int) := by omega
    go_wp2_with fail
    go_ret2
    exact ⟨HB.out, by rw [RU.out]; simp [hr]⟩
  · have hri : ¬ 0 < (r : Int) := by omega
    go_wp2_with fail
    go_ret2
    exact ⟨HB.out, by rw [RU.out]; simp [hr]⟩
end Go.Proofs.YtfklkphoplpebaaGreatDoor
