/- The law package's divides, size. -/
import Derived.Test.YtnbanlmkoljghaaGreatDoorIs
import Derived.Deep.RegionWith
namespace Go.Proofs.YtnbanlmkoljghaaGreatDoor
open Go Go.RowKit Dig

set_option maxRecDepth 100000 in
set_option maxHeartbeats 2000000 in
theorem divides_yes (w : World) (sa sb sq sr : ByteArray) (a b : Int) (hsa : sa.size ≤ 1000000) (hsb : sb.size ≤ 1000000) (ha : parseZ sa.data.toList = (a, 0)) (hb : parseZ sb.data.toList = (b, 0)) (hla : (dig a.natAbs).length ≤ 600) (hlb : (dig b.natAbs).length ≤ 600) (hb0 : b ≠ 0)
    (hq : Lib.itoa (Int.tdiv a b) = sq.data.toList) (hr : Lib.itoa (Int.tmod a b) = sr.data.toList) (G : Glob w) :
    Calls Tryz.prog 61 #[.string sa, .string sb, .string sq, .string sr] w fun e w' => Below w.heap.size w w' ∧ e = .returned (.bool true) := by
  have HA := Lib.hid ha
  have HBB := Lib.hid hb
  have HLA := Lib.hid hla
  have HLB := Lib.hid hlb
  have HB0 := Lib.hid hb0
  have HQ := Lib.hid hq
  have HR := Lib.hid hr
  have HLQ := Lib.hid (show (dig (Int.tdiv a b).natAbs).length ≤ 600 by
    rw [Int.natAbs_tdiv]; exact Nat.le_trans (dig_len_mono (Nat.div_le_self _ _)) hla)
  have HLR := Lib.hid (show (dig (Int.tmod a b).natAbs).length ≤ 600 by
    rw [Int.natAbs_tmod]; exact Nat.le_trans (dig_len_mono (Nat.mod_le _ _)) hla)
  clear ha hb hla hlb hb0 hq hr
  go_enter Tryz.func61, Tryz.ntmps61
  go_wp2_with fail
  refine (of_any _ sa hsa).mono ?_
  rintro e w1 ⟨hb1, hv1⟩
  rw [HA.out] at hv1
  obtain ⟨v1, rfl, hv1⟩ := hv1
  have HV1 := Lib.hid hv1
  have HB1 := Lib.hid hb1
  clear hv1 hb1
  go_wp2_with fail
  refine (of_any _ sb hsb).mono ?_
  rintro e w2 ⟨hb2, hv2⟩
  rw [HBB.out] at hv2
  obtain ⟨v2, rfl, hv2⟩ := hv2
  have HV2 := Lib.hid hv2
  have HV1 := Lib.hid (HV1.out.step hb2)
  have HB2 := Lib.hid (HB1.out.trans (hb2.mono HB1.out.size))
  clear hv2 hb2
  go_wp2_with fail
  refine (Div_any _ _ _ _ _ _ _ HV1.out HV2.out).mono ?_
  rintro e w3 ⟨hb3, hret⟩
  rw [numOf_dig HLA.out, numOf_dig HLB.out, show D2 (some a) (some b) = (Int.tdiv a b, Int.tmod a b, 0) from by show divZ a b = _; rw [divZ, if_neg HB0.out]] at hret
  obtain ⟨x, y, rfl, hx, hy⟩ := hret
  generalize Int.tdiv a b = q at *
  generalize Int.tmod a b = r at *
  obtain ⟨sx, rfl, hx⟩ := hx
  obtain ⟨sy, rfl, hy⟩ := hy
  obtain ⟨A1, c1, rfl, -⟩ := (show RI _ _ _ _ from hx)
  obtain ⟨A2, c2, rfl, -⟩ := (show RI _ _ _ _ from hy)
  have HX := Lib.hid hx
  have HY := Lib.hid hy
  have HB3 := Lib.hid (HB2.out.trans (hb3.mono HB2.out.size))
  clear hb3 hx hy HV1 HV2 HB1 HB2
  go_wp2
  have Lx := (LB.new w3 (.bool (decide (q < 0))) (.slice A1 (ni (dig q.natAbs)).length c1)).alloc (.cells #[.bool (decide (r < 0)), .slice A2 (ni (dig r.natAbs)).length c2] 24)
  have Ly : LB ((w3.alloc (.cells #[.bool (decide (q < 0)), .slice A1 (ni (dig q.natAbs)).length c1] 24)).alloc (.cells #[.bool (decide (r < 0)), .slice A2 (ni (dig r.natAbs)).length c2] 24)) (w3.heap.size + 1) (.bool (decide (r < 0))) (.slice A2 (ni (dig r.natAbs)).length c2) := LB.new' (by simp)
  have hb4 : Below w3.heap.size w3 ((w3.alloc (.cells #[.bool (decide (q < 0)), .slice A1 (ni (dig q.natAbs)).length c1] 24)).alloc (.cells #[.bool (decide (r < 0)), .slice A2 (ni (dig r.natAbs)).length c2] 24)) := by (repeat' (first | exact Below.refl _ _ | refine Below.drew ?_ | refine Below.alloc ?_ (by first | exact Nat.le_refl _ | (simp; done) | (simp; omega)) _))
  generalize ((w3.alloc (.cells #[.bool (decide (q < 0)), .slice A1 (ni (dig q.natAbs)).length c1] 24)).alloc (.cells #[.bool (decide (r < 0)), .slice A2 (ni (dig r.natAbs)).length c2] 24)) = w4 at *
  have HB4 := Lib.hid (HB3.out.trans (hb4.mono HB3.out.size))
  have HX4 := Lib.hid (HX.out.step hb4)
  have HY4 := Lib.hid (HY.out.step hb4)
  have HG := Lib.hid G
  have qx0 := Lx.cell0
  have qx1 := Lx.cell1
  have qy0 := Ly.cell0
  have qy1 := Ly.cell1
  clear hb4 HX HY HB3 G
  have tok1 : True := trivial
  have tok2 : True := trivial
  have tok3 : True := trivial
  have tok4 : True := trivial
  go_region_with (first
    | (go_at_call 41; clear tok1; ((with_reducible refine (is_any _ _).mono ?_); rintro e w5 ⟨hb5, N1, rfl, hN1⟩; have Lx5 := LB.step (LB.drew Lx) hb5; have Ly5 := LB.step (LB.drew Ly) hb5; have HB5 := Lib.hid (HB4.out.drew.trans (hb5.mono (by exact HB4.out.size))); have HX5 := Lib.hid (show LV w5 w5.heap.size (.agg #[.bool (decide (q < 0)), .slice A1 (ni (dig q.natAbs)).length c1]) q from ⟨_, rfl, RI.step (RI.drewed HX4.out) hb5⟩); have HY5 := Lib.hid (RI.step (RI.drewed HY4.out) hb5); have HN1 := Lib.hid hN1; have q50 := Lx5.cell0; have q51 := Lx5.cell1; clear hb5 hN1))
    | (go_at_call 86; clear tok2; ((with_reducible refine (is1_yes _ N1 sq _ q HN1.out HX5.out HLQ.out HQ.out (HG.out.step HB5.out)).mono ?_); rintro e w6 ⟨hb6, rfl⟩; have Ly6 := LB.step Ly5 hb6; have HB6 := Lib.hid (HB5.out.trans (hb6.mono (by exact HB5.out.size))); have HY6 := Lib.hid (RI.step HY5.out hb6); have q60 := Ly6.cell0; have q61 := Ly6.cell1; clear hb6))
    | (go_at_call 41; clear tok3; ((with_reducible refine (is_any _ _).mono ?_); rintro e w7 ⟨hb7, N2, rfl, hN2⟩; have Ly7 := LB.step Ly6 hb7; have HB7 := Lib.hid (HB6.out.trans (hb7.mono (by exact HB6.out.size))); have HY7 := Lib.hid (show LV w7 w7.heap.size (.agg #[.bool (decide (r < 0)), .slice A2 (ni (dig r.natAbs)).length c2]) r from ⟨_, rfl, RI.step HY6.out hb7⟩); have HN2 := Lib.hid hN2; have q70 := Ly7.cell0; have q71 := Ly7.cell1; clear hb7 hN2))
    | (go_at_call 86; clear tok4; ((with_reducible refine (is1_yes _ N2 sr _ r HN2.out HY7.out HLR.out HR.out (HG.out.step HB7.out)).mono ?_); rintro e w8 ⟨hb8, rfl⟩; have HB8 := Lib.hid (HB7.out.trans (hb8.mono (by exact HB7.out.size))); clear hb8)))
  all_goals
    go_wp2
    go_ret
    exact ⟨HB8.out, rfl⟩
end Go.Proofs.YtnbanlmkoljghaaGreatDoor
