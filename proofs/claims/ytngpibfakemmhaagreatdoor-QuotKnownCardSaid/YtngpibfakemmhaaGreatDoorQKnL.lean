/- The law QuotKnown: what its regions want (written by its generator). -/
import Derived.Test.YtngpibfakemmhaaGreatDoorQW
import Derived.Test.YtngpibfakemmhaaGreatDoorKnQ
import Derived.Test.YtngpibfakemmhaaGreatDoorPutN
namespace Go.Proofs.YtngpibfakemmhaaGreatDoor
open Go Go.RowKit Dig
def kn_fst : Code → Code
  | .seq a _ => a
  | c => c
def kn_snd : Code → Code
  | .seq _ b => b
  | c => c
theorem Repeat_nineQ (c : Nat) (w : World) (hc : c ≤ 1000000) :
    Calls Tryz.prog 5 #[.string ⟨#[57]⟩, .int .i64 c] w fun e w' => Below w.heap.size w w' ∧ ∃ s : ByteArray, e = .returned (.string s) ∧ s.data.toList = nine c := by
  have h := Tryz.strings_Repeat ⟨#[57]⟩ c w (by omega) (by show 1 * c ≤ _; omega)
  have e : Lib.repeatL (ByteArray.mk #[57]).data.toList c = List.replicate c 57 := by
    have := Lib.repeatL_replicate 57 1 c
    rw [Nat.mul_one] at this
    exact this
  rw [e] at h
  refine h.mono ?_
  rintro _ _ ⟨he, hb⟩
  exact ⟨hb, _, he, rfl⟩
theorem LV.raw {w : World} {B : Nat} {v : Value} {z : Int} (h : LV w B v z) : LR w B v (decide (z < 0)) (ni (dig z.natAbs)) := h
theorem sz1 (a : UInt8) : (ByteArray.mk #[a]).size = 1 := rfl
theorem sz2 (a b : UInt8) : (ByteArray.mk #[a, b]).size = 2 := rfl
theorem sz3 (a b c : UInt8) : (ByteArray.mk #[a, b, c]).size = 3 := rfl
theorem cat2 {s : ByteArray} {ns : List UInt8} (h : s.data.toList = ns) : ((⟨#[49, 47]⟩ : ByteArray) ++ s).data.toList = [49] ++ 47 :: ns := by rw [ByteArray.data_append, Array.toList_append, h]; rfl
theorem ret_no {w : World} {e : Ending} {t : Option Rat × Int} {c : Int} (ht : t = (none, c)) (h : RetQ w t e) : ∃ v, e = .returned (.tuple #[v, .int .i64 c]) ∧ QR w w.heap.size v false [] false [] := by subst ht; exact h
theorem ret_yes {w : World} {e : Ending} {t : Option Rat × Int} {q : Rat} (ht : t = (some q, 0)) (h : RetQ w t e) : ∃ v, e = .returned (.tuple #[v, .int .i64 0]) ∧ QV w w.heap.size v q := by subst ht; exact h
theorem neg0_bad : ¬ Valid true [] := fun h => by have := h.zero rfl; cases this
theorem zero_lit : (false, ([] : List Int)) = (decide ((0 : Int) < 0), ni (dig (0 : Int).natAbs)) := by rw [show (0 : Int).natAbs = 0 from rfl, dig_zero]; rfl
theorem qOf_none2' {n : Bool} {a : List Int} {b : List Int} (h : b.length = 0) : qOf n a false b = none := by
  obtain rfl : b = [] := List.length_eq_zero_iff.1 h
  rcases hq : qOf n a false [] with _ | q
  · rfl
  · obtain ⟨-, h2⟩ := qOf_some hq
    have h3 := numOf_dig (z := 0) (by rw [show (0 : Int).natAbs = 0 from rfl, dig_zero]; exact Nat.zero_le _)
    rw [show (0 : Int).natAbs = 0 from rfl, dig_zero] at h3
    have h4 : some (0 : Int) = some (q.den : Int) := h3.symm.trans h2
    have := Option.some.inj h4; have := q.den_pos; omega
theorem QR.neg0 {w : World} {B : Nat} {m : Bool} {A : Option Addr} {l c : Nat} {y : Int} (k : LV w B (.agg #[.bool m, .slice A l c]) y) : QR w B (.agg #[.bool true, .slice none 0 0, .bool m, .slice A l c]) true [] (decide (y < 0)) (ni (dig y.natAbs)) := by
  obtain ⟨b1, -, b3⟩ := k.is
  subst b1
  exact QR.mk (RI.nil _ _) b3
theorem LR.neg0 (w : World) (B : Nat) : LR w B (.agg #[.bool true, .slice none 0 0]) true [] := ⟨_, rfl, RI.nil _ _⟩
theorem neg_zero : ((some (-(mkRat 0 1)), 0) : Option Rat × Int) = (some (mkRat 0 1), 0) := by rw [show -(mkRat 0 1) = mkRat 0 1 by decide +kernel]
theorem QCmp_isK {w : World} {va vb : Value} {q r : Rat} {s : Int} (ha : QV w w.heap.size va q) (hb : QV w w.heap.size vb r) (lq : QL 600 600 q) (lr : QL 600 600 r) (hs : cmpR q r = s) :
    Calls Tryz.prog 24 #[va, vb] w fun e w' => Below w.heap.size w w' ∧ e = .returned (.tuple #[.int .i64 s, .int .i64 0]) := by
  have h1 := QCmp_good w va vb q r ha hb lq lr
  rw [hs] at h1
  exact h1
theorem QSign_no {w : World} {v : Value} {n m : Bool} {a b : List Int} (h : QR w w.heap.size v n a m b) (hq : qOf n a m b = none) :
    Calls Tryz.prog 23 #[v] w fun e w' => Below w.heap.size w w' ∧ e = .returned (.tuple #[.int .i64 0, .int .i64 40]) := by
  have h1 := QSign_any w v _ _ _ _ h
  rw [hq] at h1
  exact h1
theorem k0 : parseQ (ByteArray.mk #[50, 47, 51, 47, 52]).data.toList = (none, 5) := by
  show parseQ ([50] ++ 47 :: [51, 47, 52]) = _
  rw [parseQ_two (by decide), lit_parse (s := [50]) (z := 2) (by decide +kernel) (by decide), parseZ_none (s := [51, 47, 52]) (canon_letter (by rw [bare_other _ (by decide)]; intro h; have := (h 47 (by simp)).1; revert this; decide))]
  rfl
theorem k1 : parseQ (ByteArray.mk #[48, 47, 50]).data.toList = (none, 5) := by
  show parseQ ([48] ++ 47 :: [50]) = _
  rw [parseQ_two (by decide), lit_parse (s := [48]) (z := 0) (by decide +kernel) (by decide), lit_parse (s := [50]) (z := 2) (by decide +kernel) (by decide)]
  decide +kernel
theorem k2 : parseQ (ByteArray.mk #[49, 47, 48]).data.toList = (none, 5) := by
  show parseQ ([49] ++ 47 :: [48]) = _
  rw [parseQ_two (by decide), lit_parse (s := [49]) (z := 1) (by decide +kernel) (by decide), lit_parse (s := [48]) (z := 0) (by decide +kernel) (by decide)]
  decide +kernel
theorem plit_45_49 : parseQ (ByteArray.mk #[45, 49]).data.toList = (some (mkRat (-1) 1), 0) := parse_lit (lit_whole (s := [45, 49]) (x := (-1)) (by decide +kernel)) (lit_QL (x := (-1)) (d := 1) (by decide) (by decide +kernel) (by decide +kernel) (by decide +kernel))
theorem plit_49_48_52_56_53_55_54 : parseQ (ByteArray.mk #[49, 48, 52, 56, 53, 55, 54]).data.toList = (some (mkRat 1048576 1), 0) := parse_lit (lit_whole (s := [49, 48, 52, 56, 53, 55, 54]) (x := 1048576) (by decide +kernel)) (lit_QL (x := 1048576) (d := 1) (by decide) (by decide +kernel) (by decide +kernel) (by decide +kernel))
theorem plit_52_54_49_49_54_56_54_48_49_56_52_50_55_51_56_55_57_48_52 : parseQ (ByteArray.mk #[52, 54, 49, 49, 54, 56, 54, 48, 49, 56, 52, 50, 55, 51, 56, 55, 57, 48, 52]).data.toList = (some (mkRat 4611686018427387904 1), 0) := parse_lit (lit_whole (s := [52, 54, 49, 49, 54, 56, 54, 48, 49, 56, 52, 50, 55, 51, 56, 55, 57, 48, 52]) (x := 4611686018427387904) (by decide +kernel)) (lit_QL (x := 4611686018427387904) (d := 1) (by decide) (by decide +kernel) (by decide +kernel) (by decide +kernel))
theorem plit_57_50_50_51_51_55_50_48_51_54_56_53_52_55_55_53_56_48_55_47_50 : parseQ (ByteArray.mk #[57, 50, 50, 51, 51, 55, 50, 48, 51, 54, 56, 53, 52, 55, 55, 53, 56, 48, 55, 47, 50]).data.toList = (some (mkRat 9223372036854775807 2), 0) := parse_lit (lit_frac (s1 := [57, 50, 50, 51, 51, 55, 50, 48, 51, 54, 56, 53, 52, 55, 55, 53, 56, 48, 55]) (s2 := [50]) (x := 9223372036854775807) (d := 2) (by decide +kernel) (by decide +kernel) (by decide) (by decide +kernel)) (lit_QL (x := 9223372036854775807) (d := 2) (by decide) (by decide +kernel) (by decide +kernel) (by decide +kernel))
theorem plit_45_57_50_50_51_51_55_50_48_51_54_56_53_52_55_55_53_56_48_57_47_50 : parseQ (ByteArray.mk #[45, 57, 50, 50, 51, 51, 55, 50, 48, 51, 54, 56, 53, 52, 55, 55, 53, 56, 48, 57, 47, 50]).data.toList = (some (mkRat (-9223372036854775809) 2), 0) := parse_lit (lit_frac (s1 := [45, 57, 50, 50, 51, 51, 55, 50, 48, 51, 54, 56, 53, 52, 55, 55, 53, 56, 48, 57]) (s2 := [50]) (x := (-9223372036854775809)) (d := 2) (by decide +kernel) (by decide +kernel) (by decide) (by decide +kernel)) (lit_QL (x := (-9223372036854775809)) (d := 2) (by decide) (by decide +kernel) (by decide +kernel) (by decide +kernel))
theorem plit_45_49_53_47_50 : parseQ (ByteArray.mk #[45, 49, 53, 47, 50]).data.toList = (some (mkRat (-15) 2), 0) := parse_lit (lit_frac (s1 := [45, 49, 53]) (s2 := [50]) (x := (-15)) (d := 2) (by decide +kernel) (by decide +kernel) (by decide) (by decide +kernel)) (lit_QL (x := (-15)) (d := 2) (by decide) (by decide +kernel) (by decide +kernel) (by decide +kernel))
theorem plit_49_48_52_56_53_55_55 : parseQ (ByteArray.mk #[49, 48, 52, 56, 53, 55, 55]).data.toList = (some (mkRat 1048577 1), 0) := parse_lit (lit_whole (s := [49, 48, 52, 56, 53, 55, 55]) (x := 1048577) (by decide +kernel)) (lit_QL (x := 1048577) (d := 1) (by decide) (by decide +kernel) (by decide +kernel) (by decide +kernel))
theorem plit_52_53_48_51_53_57_57_54_50_55_51_55_48_52_57_55_47_52_50_57_52_57_54_55_50_57_54 : parseQ (ByteArray.mk #[52, 53, 48, 51, 53, 57, 57, 54, 50, 55, 51, 55, 48, 52, 57, 55, 47, 52, 50, 57, 52, 57, 54, 55, 50, 57, 54]).data.toList = (some (mkRat 4503599627370497 4294967296), 0) := parse_lit (lit_frac (s1 := [52, 53, 48, 51, 53, 57, 57, 54, 50, 55, 51, 55, 48, 52, 57, 55]) (s2 := [52, 50, 57, 52, 57, 54, 55, 50, 57, 54]) (x := 4503599627370497) (d := 4294967296) (by decide +kernel) (by decide +kernel) (by decide) (by decide +kernel)) (lit_QL (x := 4503599627370497) (d := 4294967296) (by decide) (by decide +kernel) (by decide +kernel) (by decide +kernel))
theorem plit_57_50_50_51_51_55_50_48_51_54_56_53_52_55_55_53_56_48_57_47_50 : parseQ (ByteArray.mk #[57, 50, 50, 51, 51, 55, 50, 48, 51, 54, 56, 53, 52, 55, 55, 53, 56, 48, 57, 47, 50]).data.toList = (some (mkRat 9223372036854775809 2), 0) := parse_lit (lit_frac (s1 := [57, 50, 50, 51, 51, 55, 50, 48, 51, 54, 56, 53, 52, 55, 55, 53, 56, 48, 57]) (s2 := [50]) (x := 9223372036854775809) (d := 2) (by decide +kernel) (by decide +kernel) (by decide) (by decide +kernel)) (lit_QL (x := 9223372036854775809) (d := 2) (by decide) (by decide +kernel) (by decide +kernel) (by decide +kernel))
theorem mk10 : mkQ 1 0 = (none, 7) := if_pos rfl
theorem txm1 : textQ (mkRat (-1) 9223372036854775808) = (ByteArray.mk #[45, 49, 47, 57, 50, 50, 51, 51, 55, 50, 48, 51, 54, 56, 53, 52, 55, 55, 53, 56, 48, 56]).data.toList := (lit_frac (s1 := [45, 49]) (s2 := [57, 50, 50, 51, 51, 55, 50, 48, 51, 54, 56, 53, 52, 55, 55, 53, 56, 48, 56]) (x := (-1)) (d := 9223372036854775808) (by decide +kernel) (by decide +kernel) (by decide) (by decide +kernel))
end Go.Proofs.YtngpibfakemmhaaGreatDoor
