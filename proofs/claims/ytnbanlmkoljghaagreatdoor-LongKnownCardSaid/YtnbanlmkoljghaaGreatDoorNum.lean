/- The operations at valid Longs: what they answer, in plain numbers. -/
import Derived.Test.YtnbanlmkoljghaaGreatDoorDivs
namespace Go.Proofs.YtnbanlmkoljghaaGreatDoor
open Go Go.RowKit Dig

/-- A number of at most 600 digits. -/
def Fit (z : Int) : Prop := (dig z.natAbs).length ≤ 600
theorem Fit.le {z y : Int} (h : Fit z) (hy : y.natAbs ≤ z.natAbs) : Fit y := Nat.le_trans (dig_len_mono hy) h
theorem told_fit {z : Int} (h : Fit z) : toldZ z = (z, 0) := by unfold toldZ; exact if_pos h
theorem fit_small {z : Int} (h : z.natAbs < 1000000000000000000000000000) : Fit z := small_len h
section
variable {w : World} {va vb : Value} {a b : Int}
theorem Add_num (ha : LV w w.heap.size va a) (hb : LV w w.heap.size vb b) (fa : Fit a) (fb : Fit b) (f : Fit (a + b)) :
    Calls Tryz.prog 43 #[va, vb] w fun e w' => Below w.heap.size w w' ∧ ∃ v, e = .returned (.tuple #[v, .int .i64 0]) ∧ LV w' w'.heap.size v (a + b) := by
  refine (Add_any w va vb _ _ _ _ ha hb).mono fun e w' ⟨hw, h⟩ => ⟨hw, ?_⟩
  rw [numOf_dig fa, numOf_dig fb, show A2 (fun a b => toldZ (a + b)) (some a) (some b) = (a + b, 0) from told_fit f] at h
  exact h
theorem Sub_num (ha : LV w w.heap.size va a) (hb : LV w w.heap.size vb b) (fa : Fit a) (fb : Fit b) (f : Fit (a - b)) :
    Calls Tryz.prog 44 #[va, vb] w fun e w' => Below w.heap.size w w' ∧ ∃ v, e = .returned (.tuple #[v, .int .i64 0]) ∧ LV w' w'.heap.size v (a - b) := by
  refine (Sub_any w va vb _ _ _ _ ha hb).mono fun e w' ⟨hw, h⟩ => ⟨hw, ?_⟩
  rw [numOf_dig fa, numOf_dig fb, show A2 (fun a b => toldZ (a - b)) (some a) (some b) = (a - b, 0) from told_fit f] at h
  exact h
theorem Mul_num (ha : LV w w.heap.size va a) (hb : LV w w.heap.size vb b) (fa : Fit a) (fb : Fit b) (f : Fit (a * b)) :
    Calls Tryz.prog 19 #[va, vb] w fun e w' => Below w.heap.size w w' ∧ ∃ v, e = .returned (.tuple #[v, .int .i64 0]) ∧ LV w' w'.heap.size v (a * b) := by
  refine (Mul_any w va vb _ _ _ _ ha hb).mono fun e w' ⟨hw, h⟩ => ⟨hw, ?_⟩
  rw [numOf_dig fa, numOf_dig fb, show A2 (fun a b => toldZ (a * b)) (some a) (some b) = (a * b, 0) from told_fit f] at h
  exact h
theorem fit_gcd (fa : Fit a) (fb : Fit b) : Fit (Int.gcd a b : Int) := by
  unfold Fit
  rw [Int.natAbs_natCast]
  exact dig_len_gcd _ _ fa fb
theorem Gcd_num (ha : LV w w.heap.size va a) (hb : LV w w.heap.size vb b) (fa : Fit a) (fb : Fit b) :
    Calls Tryz.prog 25 #[va, vb] w fun e w' => Below w.heap.size w w' ∧ ∃ v, e = .returned (.tuple #[v, .int .i64 0]) ∧ LV w' w'.heap.size v (Int.gcd a b : Int) := by
  refine (Gcd_any w va vb _ _ _ _ ha hb).mono fun e w' ⟨hw, h⟩ => ⟨hw, ?_⟩
  rw [numOf_dig fa, numOf_dig fb, show A2 (fun a b => toldZ (Int.gcd a b : Int)) (some a) (some b) = ((Int.gcd a b : Int), 0) from told_fit (fit_gcd fa fb)] at h
  exact h
theorem Neg_num (ha : LV w w.heap.size va a) (fa : Fit a) :
    Calls Tryz.prog 47 #[va] w fun e w' => Below w.heap.size w w' ∧ ∃ v, e = .returned (.tuple #[v, .int .i64 0]) ∧ LV w' w'.heap.size v (-a) := by
  refine (Neg_any w va _ _ ha).mono fun e w' ⟨hw, h⟩ => ⟨hw, ?_⟩
  rw [numOf_dig fa] at h
  exact h
theorem Sqrt_num (ha : LV w w.heap.size va a) (fa : Fit a) (h0 : 0 ≤ a) :
    Calls Tryz.prog 33 #[va] w fun e w' => Below w.heap.size w w' ∧ ∃ v, e = .returned (.tuple #[v, .int .i64 0]) ∧ LV w' w'.heap.size v (rootN a.natAbs : Int) := by
  refine (Sqrt_any w va _ _ ha).mono fun e w' ⟨hw, h⟩ => ⟨hw, ?_⟩
  rw [numOf_dig fa, show A1 sqrtZ (some a) = ((rootN a.natAbs : Int), 0) by show sqrtZ a = _; rw [sqrtZ, if_neg (by omega)]] at h
  exact h
theorem Sqrt_minus (ha : LV w w.heap.size va a) (fa : Fit a) (h0 : a < 0) :
    Calls Tryz.prog 33 #[va] w fun e w' => Below w.heap.size w w' ∧ ∃ v, e = .returned (.tuple #[v, .int .i64 2]) ∧ LV w' w'.heap.size v 0 := by
  refine (Sqrt_any w va _ _ ha).mono fun e w' ⟨hw, h⟩ => ⟨hw, ?_⟩
  rw [numOf_dig fa, show A1 sqrtZ (some a) = (0, 2) by show sqrtZ a = _; rw [sqrtZ, if_pos h0]] at h
  exact h
theorem Div_num (ha : LV w w.heap.size va a) (hb : LV w w.heap.size vb b) (fa : Fit a) (fb : Fit b) (h0 : b ≠ 0) :
    Calls Tryz.prog 22 #[va, vb] w fun e w' => Below w.heap.size w w' ∧ ∃ v u, e = .returned (.tuple #[v, u, .int .i64 0]) ∧ LV w' w'.heap.size v (Int.tdiv a b) ∧ LV w' w'.heap.size u (Int.tmod a b) := by
  refine (Div_any w va vb _ _ _ _ ha hb).mono fun e w' ⟨hw, h⟩ => ⟨hw, ?_⟩
  rw [numOf_dig fa, numOf_dig fb, show D2 (some a) (some b) = (Int.tdiv a b, Int.tmod a b, 0) by show divZ a b = _; rw [divZ, if_neg h0]] at h
  exact h
theorem Div_none (ha : LV w w.heap.size va a) (hb : LV w w.heap.size vb b) (fa : Fit a) (h0 : b = 0) :
    Calls Tryz.prog 22 #[va, vb] w fun e w' => Below w.heap.size w w' ∧ ∃ v u, e = .returned (.tuple #[v, u, .int .i64 7]) ∧ LV w' w'.heap.size v 0 ∧ LV w' w'.heap.size u 0 := by
  subst h0
  refine (Div_any w va vb _ _ _ _ ha hb).mono fun e w' ⟨hw, h⟩ => ⟨hw, ?_⟩
  rw [numOf_dig fa, numOf_dig (fit_small (z := 0) (by decide)), show D2 (some a) (some 0) = (0, 0, 7) by show divZ a 0 = _; rw [divZ, if_pos rfl]] at h
  exact h
theorem Cmp_num (ha : LV w w.heap.size va a) (hb : LV w w.heap.size vb b) (fa : Fit a) (fb : Fit b) :
    Calls Tryz.prog 50 #[va, vb] w fun e w' => Below w.heap.size w w' ∧ e = .returned (.tuple #[.int .i64 (cmpZ a b).1, .int .i64 0]) := by
  refine (CmpL_any w va vb _ _ _ _ ha hb).mono fun e w' ⟨hw, h⟩ => ⟨hw, ?_⟩
  rw [numOf_dig fa, numOf_dig fb] at h
  exact h
theorem Int_num (ha : LV w w.heap.size va a) (fa : Fit a) (G : Glob w) :
    Calls Tryz.prog 52 #[va] w fun e w' => Below w.heap.size w w' ∧ e = .returned (.tuple #[.int .i64 (intZ a).1, .int .i64 (intZ a).2]) := by
  refine (Int_any w va _ _ ha G).mono fun e w' ⟨hw, h⟩ => ⟨hw, ?_⟩
  rw [numOf_dig fa] at h
  exact h
theorem Text_num (ha : LV w w.heap.size va a) (fa : Fit a) (G : Glob w) :
    Calls Tryz.prog 35 #[va] w fun e w' => Below w.heap.size w w' ∧ e = .returned (.tuple #[.string ⟨(Lib.itoa a).toArray⟩, .int .i64 0]) := by
  refine (Text_any w va _ _ ha G).mono fun e w' ⟨hw, h⟩ => ⟨hw, ?_⟩
  rw [numOf_dig fa] at h
  exact h
theorem Check_num (ha : LV w w.heap.size va a) (fa : Fit a) :
    Calls Tryz.prog 54 #[va] w fun e w' => Below w.heap.size w w' ∧ e = .returned (.int .i64 0) := by
  refine (Check_any w va _ _ ha).mono fun e w' ⟨hw, c, he, h⟩ => ⟨hw, ?_⟩
  rcases h with ⟨_, hc⟩ | ⟨hv, _⟩
  · rw [he, hc]
  · exact absurd (valid_num fa) hv
theorem Same_num (ha : LV w w.heap.size va a) (hb : LV w w.heap.size vb b) :
    Calls Tryz.prog 40 #[va, vb] w fun e w' => Below w.heap.size w w' ∧ e = .returned (.bool (decide (a = b))) := by
  refine (Same_any w va vb _ _ _ _ ha hb).mono fun e w' ⟨hw, h⟩ => ⟨hw, ?_⟩
  rw [h]
  have : (decide (a < 0) = decide (b < 0) ∧ ni (dig a.natAbs) = ni (dig b.natAbs)) ↔ a = b := ⟨fun h => lv_inj h.1 h.2, fun h => by rw [h]; exact ⟨rfl, rfl⟩⟩
  rw [show decide (decide (a < 0) = decide (b < 0) ∧ ni (dig a.natAbs) = ni (dig b.natAbs)) = decide (a = b) from decide_eq_decide.2 this]
theorem of_num {s : ByteArray} (hs : s.size ≤ 1000000) (h : parseZ s.data.toList = (a, 0)) :
    Calls Tryz.prog 58 #[.string s] w fun e w' => Below w.heap.size w w' ∧ ∃ v, e = .returned v ∧ LV w' w'.heap.size v a := by
  refine (of_any w s hs).mono fun e w' ⟨hw, h'⟩ => ⟨hw, ?_⟩
  rw [h] at h'
  exact h'
theorem Parse_num {s : ByteArray} {r : Int × Int} (hs : s.size ≤ 1000000) (h : parseZ s.data.toList = r) :
    Calls Tryz.prog 38 #[.string s] w fun e w' => Below w.heap.size w w' ∧ ∃ v, e = .returned (.tuple #[v, .int .i64 r.2]) ∧ LV w' w'.heap.size v r.1 := by
  refine (Parse_any w s hs).mono fun e w' ⟨hw, h'⟩ => ⟨hw, ?_⟩
  rw [h] at h'
  exact h'
end
theorem below_undrew {B : Nat} {a w : World} (h : Below B a.drew w) : Below B a w := ⟨h.os, h.tape, h.output, h.size, h.block⟩
theorem Glob.drew {w : World} (h : Glob w) : Glob w.drew := ⟨h.pow, h.rng⟩
/-- A valid Long reads as it did behind stores into a Long variable. -/
theorem LV.setLB {w : World} {v : Value} {z : Int} {b : Nat} {p q : Bool} {A A' : Option Addr} {n c n' c' : Nat} (h : LV w w.heap.size v z) (hv : LB w b (.bool p) (.slice A n c)) (u0 u1 : Value) (h0 : u0 = .bool q) (h1 : u1 = .slice A' n' c') :
    LV ((w.setCell ⟨b, 0, none⟩ u0).setCell ⟨b, 1, none⟩ u1) ((w.setCell ⟨b, 0, none⟩ u0).setCell ⟨b, 1, none⟩ u1).heap.size v z := by
  subst h0 h1
  obtain ⟨s, rfl, hs⟩ := h
  have e : ((w.setCell ⟨b, 0, none⟩ (.bool q)).setCell ⟨b, 1, none⟩ (.slice A' n' c')).heap.size = w.heap.size := by simp [World.setCell]
  rw [e]
  exact ⟨s, rfl, (hs.setLB hv 0 (.bool q)).setLB (hv.set0 _) 1 _⟩
/-- A valid Long as its parts. -/
theorem LV.parts {w : World} {B : Nat} {v : Value} {z : Int} (h : LV w B v z) : ∃ A c, v = .agg #[.bool (decide (z < 0)), .slice A (dig z.natAbs).length c] ∧ RI w B (.slice A (dig z.natAbs).length c) (ni (dig z.natAbs)) := by
  obtain ⟨s, rfl, hs⟩ := h
  obtain ⟨A, c, hv, hr⟩ := hs
  rw [ni_length] at hv
  subst hv
  exact ⟨A, c, rfl, A, c, by rw [ni_length], hr⟩
end Go.Proofs.YtnbanlmkoljghaaGreatDoor
