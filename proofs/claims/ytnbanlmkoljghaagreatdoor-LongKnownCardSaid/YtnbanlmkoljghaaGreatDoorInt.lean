/- long.Int. -/
import Derived.Test.YtnbanlmkoljghaaGreatDoorText
import Derived.Test.YtnbanlmkoljghaaGreatDoorOrd
namespace Go.Proofs.YtnbanlmkoljghaaGreatDoor
open Go Go.RowKit Dig

theorem itoa_len {z : Int} (h : (dig z.natAbs).length ≤ 600) : (Lib.itoa z).length ≤ 5401 := by
  have h1 := (dd_len_dig z.natAbs 600 (by omega)).2 h
  by_cases hz : z < 0
  · rw [itoa_min hz]; simp; omega
  · rw [itoa_pos (by omega)]; omega
set_option maxRecDepth 100000 in
set_option maxHeartbeats 1000000 in
theorem Int_any (w : World) (va : Value) (na : Bool) (la : List Int) (ha : LR w w.heap.size va na la) (G : Glob w) :
    Calls Tryz.prog 52 #[va] w fun e w' => Below w.heap.size w w' ∧ RetI (A1 intZ (numOf na la)) e := by
  obtain ⟨sa, rfl, hsa⟩ := ha
  obtain ⟨P1, k1, rfl, -⟩ := (show RI _ _ _ _ from hsa)
  replace hsa := Lib.hid hsa
  replace G := Lib.hid G
  obtain ⟨r, hr⟩ : ∃ r, r = A1 intZ (numOf na la) := ⟨_, rfl⟩
  rw [← hr]
  replace hr := Lib.hid hr
  go_enter Tryz.func52, Tryz.ntmps52
  go_wp2_with fail
  refine (Check_any _ _ na la ⟨_, rfl, hsa.out.step (by (repeat' (first | exact Below.refl _ _ | refine Below.drew ?_ | refine Below.alloc ?_ (by first | exact Nat.le_refl _ | (simp; done) | (simp; omega)) _)))⟩).mono ?_
  rintro e w2 ⟨hb2, c, rfl, hc⟩
  have La : LB w2 w.heap.size (.bool na) (.slice P1 la.length k1) := LB.of_block (by (repeat (first | (refine LB.new' ?_; simp; done) | refine LB.alloc ?_ _))) (hb2.block _ (by simp))
  have HB := Lib.hid ((show Below w.heap.size w _ from by (repeat' (first | exact Below.refl _ _ | refine Below.drew ?_ | refine Below.alloc ?_ (by first | exact Nat.le_refl _ | (simp; done) | (simp; omega)) _))).trans (hb2.mono (by simp)))
  have qa0 := La.cell0
  have qa1 := La.cell1
  clear hb2
  rcases hc with ⟨hv, rfl⟩ | ⟨hv, rfl⟩
  · obtain ⟨z, hnz, hz0, hz1, hlz⟩ := numOf_valid hv
    have HR := Lib.hid (show r = intZ z by rw [hr.out, hnz]; rfl)
    have HNZ := Lib.hid hnz
    have HLZ := Lib.hid hlz
    clear hr hnz hv hz0 hz1 hlz
    go_wp2_with fail
    refine (Text_any _ _ na la ⟨_, rfl, hsa.out.step HB.out⟩ (G.out.step HB.out)).mono ?_
    rintro e w3 ⟨hb3, he⟩
    rw [HNZ.out] at he
    have he : e = .returned (.tuple #[.string ⟨(Lib.itoa z).toArray⟩, .int .i64 0]) := he
    subst he
    obtain ⟨s, hs⟩ : ∃ s : ByteArray, s = ⟨(Lib.itoa z).toArray⟩ := ⟨_, rfl⟩
    rw [← hs]
    have HS := Lib.hid (show s.data.toList = Lib.itoa z by rw [hs])
    have HSL := Lib.hid (show s.size ≤ 5401 by rw [Lib.size_eq, HS.out]; exact itoa_len HLZ.out)
    have HB3 := Lib.hid (HB.out.trans (hb3.mono HB.out.size))
    clear hs hb3 qa0 qa1
    by_cases hf : -9223372036854775808 ≤ z ∧ z ≤ 9223372036854775807
    · have HZ := Lib.hid (show intZ z = (z, 0) by unfold intZ; rw [if_pos hf])
      have HA := Lib.hid (show Lib.atoiAll s.data.toList = .ok z by rw [HS.out, atoi_itoa, if_pos hf])
      clear hf
      go_wp2_with fail
      refine (Atoi_yes s (by have := HSL.out; omega) z HA.out _).mono ?_
      rintro e w4 ⟨rfl, hb4⟩
      have HB4 := Lib.hid (HB3.out.trans (hb4.mono HB3.out.size))
      clear hb4
      go_wp2
      go_ret2
      refine ⟨HB4.out, ?_⟩
      rw [HR.out, HZ.out]; rfl
    · have HZ := Lib.hid (show intZ z = (0, 6) by unfold intZ; rw [if_neg hf])
      have HA := Lib.hid (show Lib.atoiAll s.data.toList = .range by rw [HS.out, atoi_itoa, if_neg hf])
      clear hf
      go_wp2_with fail
      refine (Atoi_big s (by have := HSL.out; omega) HA.out _ (G.out.step HB3.out)).mono ?_
      rintro e w4 ⟨n, N, rfl, hb4⟩
      have HB4 := Lib.hid (HB3.out.trans (hb4.mono HB3.out.size))
      clear hb4
      go_wp2
      go_ret2
      refine ⟨HB4.out, ?_⟩
      rw [HR.out, HZ.out]; rfl
  · have HR := Lib.hid (hr.out.trans (A1_bad hv))
    clear hr
    go_wp2
    go_ret2
    refine ⟨HB.out, ?_⟩
    rw [HR.out]; rfl
end Go.Proofs.YtnbanlmkoljghaaGreatDoor
