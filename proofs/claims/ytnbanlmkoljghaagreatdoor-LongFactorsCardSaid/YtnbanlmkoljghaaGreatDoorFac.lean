/- Plain facts on the greatest common divisor of whole numbers, for LongFactors. -/
import Derived.Test.YtnbanlmkoljghaaGreatDoorLen
namespace Go.Proofs.YtnbanlmkoljghaaGreatDoor
open Go Go.RowKit Dig

theorem gcd_cut {a b : Int} (h : Int.gcd a b ≠ 0) : Int.gcd (Int.tdiv a (Int.gcd a b)) (Int.tdiv b (Int.gcd a b)) = 1 := by
  have hp : 0 < Int.gcd a b := Nat.pos_of_ne_zero h
  have e : ∀ z : Int, (Int.tdiv z (Int.gcd a b)).natAbs = z.natAbs / Int.gcd a b := fun z => by rw [Int.natAbs_tdiv]; rfl
  show Nat.gcd _ _ = 1
  rw [e, e]
  have h1 : Nat.gcd (a.natAbs / Int.gcd a b) (b.natAbs / Int.gcd a b) = Nat.gcd a.natAbs b.natAbs / Int.gcd a b := Nat.gcd_div (Nat.gcd_dvd_left ..) (Nat.gcd_dvd_right ..)
  rw [h1]
  exact Nat.div_self hp
theorem gcd_scale (a b c : Int) : ((Int.gcd (a * c) (b * c) : Nat) : Int) = (Int.gcd a b : Int) * (c.natAbs : Int) := by
  have h : Int.gcd (a * c) (b * c) = Int.gcd a b * c.natAbs := by
    show Nat.gcd _ _ = Nat.gcd _ _ * _
    rw [Int.natAbs_mul, Int.natAbs_mul, Nat.gcd_mul_right]
  rw [h]; exact Int.natCast_mul _ _
theorem gcd_rest (a b : Int) : Int.tmod a (Int.gcd a b) = 0 ∧ Int.tmod b (Int.gcd a b) = 0 :=
  ⟨Int.tmod_eq_zero_of_dvd (Int.gcd_dvd_left ..), Int.tmod_eq_zero_of_dvd (Int.gcd_dvd_right ..)⟩
theorem gcd_zero {a b : Int} (ha : a = 0) (hb : b = 0) : Int.gcd a b = 0 := by subst ha; subst hb; rfl
end Go.Proofs.YtnbanlmkoljghaaGreatDoor
