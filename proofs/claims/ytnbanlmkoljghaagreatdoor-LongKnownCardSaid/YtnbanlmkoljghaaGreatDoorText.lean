/- long.Text. -/
import Derived.Test.YtnbanlmkoljghaaGreatDoorOfN
import Derived.Test.YtnbanlmkoljghaaGreatDoorBld
namespace Go.Proofs.YtnbanlmkoljghaaGreatDoor
open Go Go.RowKit Dig

/-- A text and an error are returned. -/
def RetS (r : List UInt8 × Int) (e : Ending) : Prop := e = .returned (.tuple #[.string ⟨r.1.toArray⟩, .int .i64 r.2])
/-- The text of the digits from place k up. -/
def up (l : List Nat) (k : Nat) : List UInt8 := if k = l.length then [] else Lib.decDigits (val (l.drop k))
theorem up_len {l : List Nat} (h : Norm l) {k : Nat} (hl : l.length ≤ 600) : (up l k).length ≤ 5400 := by
  unfold up
  split
  · simp
  · rw [show 5400 = 9 * 600 from rfl, dd_len_dig _ 600 (by omega), dig_len_le]
    exact Nat.lt_of_lt_of_le (val_lt (h.1.drop k)) (bp_le (by simp; omega))
theorem up_last {l : List Nat} (h : Norm l) {k : Nat} (hk : k + 1 = l.length) : up l k = up l (k + 1) ++ Lib.decDigits (l.getD k 0) := by
  unfold up
  rw [if_neg (by omega), if_pos hk, text_step h (by omega), if_pos hk]; rfl
theorem up_more {l : List Nat} (h : Norm l) {k : Nat} (hk : k < l.length) (hn : k + 1 ≠ l.length) : up l k = up l (k + 1) ++ List.replicate (9 - (Lib.decDigits (l.getD k 0)).length) 48 ++ Lib.decDigits (l.getD k 0) := by
  unfold up
  rw [if_neg (by omega), if_neg hn, text_step h hk, if_neg hn, List.append_assoc]
theorem up_all {l : List Nat} (hn : l ≠ []) : up l 0 = Lib.decDigits (val l) := by
  unfold up
  rw [if_neg (fun e => hn (List.eq_nil_of_length_eq_zero e.symm)), List.drop_zero]
theorem up_top (l : List Nat) : up l l.length = [] := by unfold up; rw [if_pos rfl]

set_option maxRecDepth 100000 in
set_option maxHeartbeats 2000000 in
theorem Text_any (w : World) (va : Value) (na : Bool) (la : List Int) (ha : LR w w.heap.size va na la) (G : Glob w) :
    Calls Tryz.prog 35 #[va] w fun e w' => Below w.heap.size w w' ∧ RetS (T1 (numOf na la)) e := by
  obtain ⟨sa, rfl, hsa⟩ := ha
  obtain ⟨P1, k1, rfl, -⟩ := (show RI _ _ _ _ from hsa)
  replace hsa := Lib.hid hsa
  replace G := Lib.hid G
  obtain ⟨r, hr⟩ : ∃ r, r = T1 (numOf na la) := ⟨_, rfl⟩
  rw [← hr]
  replace hr := Lib.hid hr
  go_enter Tryz.func35, Tryz.ntmps35
  go_wp2_with fail
  refine (Check_any _ _ na la ⟨_, rfl, hsa.out.step (by (repeat' (first | exact Below.refl _ _ | refine Below.drew ?_ | refine Below.alloc ?_ (by first | exact Nat.le_refl _ | (simp; done) | (simp; omega)) _)))⟩).mono ?_
  rintro e w2 ⟨hb2, c, rfl, hc⟩
  have La : LB w2 w.heap.size (.bool na) (.slice P1 la.length k1) := LB.of_block (by (repeat (first | (refine LB.new' ?_; simp; done) | refine LB.alloc ?_ _))) (hb2.block _ (by simp))
  have HB := Lib.hid ((show Below w.heap.size w _ from by (repeat' (first | exact Below.refl _ _ | refine Below.drew ?_ | refine Below.alloc ?_ (by first | exact Nat.le_refl _ | (simp; done) | (simp; omega)) _))).trans (hb2.mono (by simp)))
  have qa0 := La.cell0
  have qa1 := La.cell1
  clear hb2
  rcases hc with ⟨hv, rfl⟩ | ⟨hv, rfl⟩
  · obtain ⟨z, hnz, hz0, hz1, hlz⟩ := numOf_valid hv
    have HR := Lib.hid (show r = (Lib.itoa z, 0) by rw [hr.out, hnz]; rfl)
    have hn := dig_norm z.natAbs
    have hvz := val_dig z.natAbs
    generalize dig z.natAbs = l at *
    have hll : la.length = l.length := by rw [hz1, ni_length]
    have HL := Lib.hid hll
    have HN := Lib.hid hn
    have HV := Lib.hid hvz
    have hri := hsa.out.step HB.out
    rw [hz1, ni_length, ← hll] at hri
    have hL6 : la.length ≤ 600 := by omega
    clear hr hnz hv hsa hn hvz hz1 hll hlz
    generalize la.length = L at *
    by_cases hz : z = 0
    · have h0 : L = 0 := by
        rw [HL.out]
        have h1 := HV.out
        rw [hz] at h1
        rw [(norm_zero HN.out).1 h1]; rfl
      have HZ := Lib.hid hz
      subst h0
      clear hz
      go_wp2
      go_ret2
      refine ⟨HB.out, ?_⟩
      rw [HR.out, HZ.out, show Lib.itoa 0 = [48] from dd_zero]; rfl
    · have hlne : l ≠ [] := fun e => hz (by have := HV.out; rw [e] at this; simp [val] at this; omega)
      have hL0 : 0 < L := by rw [HL.out]; exact List.length_pos_iff.2 hlne
      have hL1 : ((L : Int) == 0) = false := by rw [beq_eq_false_iff_ne]; omega
      obtain ⟨A', c', hv', hcc, hcc', hA⟩ := RN.cell (show RN w2 w2.heap.size (.slice P1 L k1) l from hri)
      obtain ⟨h1, -, h3⟩ : P1 = A' ∧ L = l.length ∧ k1 = c' := by simpa using hv'
      subst h1 h3
      obtain ⟨g, off, rfl, hg, hx⟩ := hA (by rw [← HL.out]; exact hL0)
      have HX : Hid (∀ j, j < L → w2.cell? ⟨g, off + j, none⟩ = some (.int .i64 ((l.getD j 0 : Nat) : Int))) := Lib.hid (fun j hj => by
        have h1 : j < l.length := by rw [← HL.out]; exact hj
        rw [hx j h1, getD_get h1])
      have HG2 := Lib.hid (G.out.step HB.out)
      have HNE := Lib.hid hlne
      have hLk : L ≤ k1 := by rw [HL.out]; exact hcc
      clear hv' hcc hA hx hri hz hlne
      have hsz2 : w.heap.size < w2.heap.size := La.lt
      have B0 := Lib.hid (Bld.new w2 w2.heap.size (Nat.le_refl _))
      have L3 := La.alloc (.cells #[.pointer none, .slice none 0 0] 93)
      have HB3 := Lib.hid ((Below.refl w2.heap.size w2).alloc (Nat.le_refl _) (.cells #[.pointer none, .slice none 0 0] 93))
      have HS3 : w2.heap.size < (w2.alloc (.cells #[.pointer none, .slice none 0 0] 93)).heap.size := by simp
      obtain ⟨pre, hpre⟩ : ∃ pre : List UInt8, pre = if na then [45] else [] := ⟨_, rfl⟩
      have hpl : pre.length ≤ 1 := by rw [hpre]; split <;> simp
      have HP := Lib.hid (show Lib.itoa z = pre ++ up l 0 by
        rw [hpre, hz0, up_all HNE.out, HV.out]
        by_cases hn : z < 0
        · rw [if_pos (by simpa using hn), itoa_min hn]; rfl
        · rw [if_neg (by simpa using hn), itoa_pos (by omega)]; rfl)
      have HPR := Lib.hid hpre
      clear hpre hz0
      cases na with
      | false =>
        have BL4 := Lib.hid (show Bld (w2.alloc (.cells #[.pointer none, .slice none 0 0] 93)) w2.heap.size w2.heap.size (pre ++ up l L) by rw [HPR.out, HL.out, up_top]; exact B0.out)
        have L4 := L3
        have HB4 := HB3
        have hs4 := HS3
        clear B0 L3 HB3 HS3
        go_wp2
        clear La qa0 qa1
        go_loopw [6] (fun i wr => ∃ k : Nat, k ≤ L ∧ i = .int .i64 ((k : Int) - 1) ∧ Hid (Bld wr w2.heap.size w2.heap.size (pre ++ up l k)) ∧ LB wr w.heap.size (.bool false) (.slice (some ⟨g, off, none⟩) L k1) ∧ Hid (Below w2.heap.size w2 wr) ∧ w2.heap.size < wr.heap.size) (fun i _ => (intOf i + 1).toNat)
        case atStart => exact ⟨L, Nat.le_refl _, rfl, BL4, L4, HB4, hs4⟩
        case round =>
          clear BL4 L4 HB4 hs4
          obtain ⟨k, hk, rfl, hbld, Lr, hbw, hsr⟩ := hrel
          have HBW := Lib.hid (HB.out.trans (hbw.out.mono HB.out.size))
          rcases k with _ | j
          · rw [show ((0 : Nat) : Int) - 1 = -1 from rfl]
            have HBL := Lib.hid (show Bld wr w2.heap.size w2.heap.size (Lib.itoa z) by rw [HP.out]; exact hbld.out)
            have HIN := Lib.hid (show Lib.itoa z ≠ [] by rw [HP.out, up_all HNE.out]; exact fun e => dd_ne _ (List.append_eq_nil_iff.1 e).2)
            clear hbld
            go_wp2_with fail
            refine (String_any _ _ (Lib.itoa z) _ HBL.out HIN.out).mono ?_
            rintro e w5 ⟨rfl, hb5⟩
            have HB5 := Lib.hid (HBW.out.trans (hb5.mono (HB.out.size)))
            clear hb5
            go_wp2
            go_ret2
            refine ⟨HB5.out, ?_⟩
            rw [HR.out]; rfl
          · rw [show ((j + 1 : Nat) : Int) - 1 = (j : Int) by omega]
            have hjL : (j : Int) < L := by omega
            have qr1 := Lr.cell1
            have hx1 := (hbw.out.cell (p := ⟨g, off + j, none⟩) (Nat.lt_of_lt_of_le hg (Nat.le_refl _))).trans (HX.out j (by omega))
            obtain ⟨d, hd⟩ : ∃ d, d = l.getD j 0 := ⟨_, rfl⟩
            rw [← hd] at hx1
            have hdb : (d : Int) < 1000000000 := by have := HN.out.1.getD j; rw [← hd] at this; omega
            have HD := Lib.hid hd
            have hlast : j + 1 = L ∨ j + 1 < L := by omega
            clear hd
            go_wp2_with fail
            refine (Itoa_any _ (by omega) (by omega) _ (HG2.out.step (hbw.out))).mono ?_
            rintro e w5 ⟨rfl, hb5⟩
            obtain ⟨s, hs⟩ : ∃ s : ByteArray, s = ⟨(Lib.itoa (d : Int)).toArray⟩ := ⟨_, rfl⟩
            rw [← hs]
            have hsd : s.data.toList = Lib.decDigits d := by rw [hs, itoa_pos (by omega)]; simp
            have hs9 : s.size ≤ 9 := by
              rw [Lib.size_eq, hsd]; exact dd_len9 (by omega)
            have hs9i : (s.size : Int) ≤ 9 := by omega
            have HSD := Lib.hid hsd
            have L5 := Lr.step hb5
            have B5 := Lib.hid (hbld.out.step hb5)
            have HB5 := Lib.hid (hbw.out.trans (hb5.mono (by omega)))
            have hsz5 : w2.heap.size < w5.heap.size := Nat.lt_of_lt_of_le hsr hb5.size
            have HUL := Lib.hid (up_len (k := j + 1) HN.out (by rw [← HL.out]; exact hL6))
            clear hs hsd hb5 hbld Lr qr1 hx1
            have qr1 := L5.cell1
            rcases hlast with hlast | hlast
            · have HLS := Lib.hid (show up l j = up l (j + 1) ++ Lib.decDigits d by rw [HD.out]; exact up_last HN.out (by rw [← HL.out]; exact hlast))
              have hlt : decide ((j : Int) < (L : Int) - 1) = false := by rw [decide_eq_false_iff_not]; omega
              clear hlast
              go_wp2_with fail
              refine (WriteString_any _ _ _ (Lib.decDigits d) s _ B5.out HSD.out (by have := HUL.out; have h2 := HSD.out; rw [← h2, ← Lib.size_eq]; simp; omega) (by omega)).mono ?_
              rintro e w6 ⟨rfl, hb6, hbl6⟩
              have B6 := Lib.hid (show Bld w6 w2.heap.size w2.heap.size (pre ++ up l j) by rw [HLS.out, ← List.append_assoc]; exact hb6)
              have L6 := LB.of_block L5 (hbl6.block _ hsz2)
              have HB6 := Lib.hid (HB5.out.trans hbl6)
              have hs6 : w2.heap.size < w6.heap.size := Nat.lt_of_lt_of_le hsz5 hbl6.size
              clear hb6 hbl6
              go_wp2
              go_roundw
              case rel => exact ⟨j, by omega, rfl, B6, L6, HB6, hs6⟩
              case measure => simp [intOf]
            · have HLS := Lib.hid (show up l j = up l (j + 1) ++ List.replicate (9 - s.size) 48 ++ Lib.decDigits d by rw [Lib.size_eq, HSD.out, HD.out]; exact up_more HN.out (by rw [← HL.out]; omega) (by rw [← HL.out]; omega))
              have hlt : (j : Int) < (L : Int) - 1 := by omega
              clear hlast
              go_wp2_with fail
              rw [show (9 : Int) - (s.size : Int) = ((9 - s.size : Nat) : Int) by omega]
              refine (Repeat_zeros _ _ (by omega)).mono ?_
              rintro e w6 ⟨rfl, hb6⟩
              obtain ⟨u, hu⟩ : ∃ u : ByteArray, u = ⟨(List.replicate (9 - s.size) (48 : UInt8)).toArray⟩ := ⟨_, rfl⟩
              rw [← hu]
              have HU := Lib.hid (show u.data.toList = List.replicate (9 - s.size) 48 by rw [hu])
              have B6 := Lib.hid (B5.out.step hb6)
              have L6 := L5.step hb6
              have HB6 := Lib.hid (HB5.out.trans (hb6.mono (by omega)))
              have hs6 : w2.heap.size < w6.heap.size := Nat.lt_of_lt_of_le hsz5 hb6.size
              clear hu hb6 qr1
              go_wp2_with fail
              refine (WriteString_any _ _ _ (List.replicate (9 - s.size) 48) u _ B6.out HU.out (by have := HUL.out; simp; omega) (by omega)).mono ?_
              rintro e w7 ⟨rfl, hb7, hbl7⟩
              have B7 := Lib.hid hb7
              have L7 := LB.of_block L6 (hbl7.block _ hsz2)
              have HB7 := Lib.hid (HB6.out.trans hbl7)
              have hs7 : w2.heap.size < w7.heap.size := Nat.lt_of_lt_of_le hs6 hbl7.size
              clear hb7 hbl7
              go_wp2_with fail
              refine (WriteString_any _ _ _ (Lib.decDigits d) s _ B7.out HSD.out (by have := HUL.out; have h2 := HSD.out; rw [← h2, ← Lib.size_eq]; simp; omega) (by omega)).mono ?_
              rintro e w8 ⟨rfl, hb8, hbl8⟩
              have B8 := Lib.hid (show Bld w8 w2.heap.size w2.heap.size (pre ++ up l j) by rw [HLS.out, ← List.append_assoc, ← List.append_assoc]; exact hb8)
              have L8 := LB.of_block L7 (hbl8.block _ hsz2)
              have HB8 := Lib.hid (HB7.out.trans hbl8)
              have hs8 : w2.heap.size < w8.heap.size := Nat.lt_of_lt_of_le hs7 hbl8.size
              clear hb8 hbl8
              go_wp2
              go_roundw
              case rel => exact ⟨j, by omega, rfl, B8, L8, HB8, hs8⟩
              case measure => simp [intOf]
      | true =>
        go_wp2_with fail
        clear La qa0 qa1
        refine (WriteByte_any _ _ [] 45 45 rfl _ B0.out (by simp) (by simp)).mono ?_
        rintro e w4 ⟨rfl, hb4, hbl4⟩
        have BL4 := Lib.hid (show Bld w4 w2.heap.size w2.heap.size (pre ++ up l L) by rw [HPR.out, HL.out, up_top]; exact hb4)
        have L4 := LB.of_block L3 (hbl4.block _ hsz2)
        have HB4 := Lib.hid (HB3.out.trans hbl4)
        have hs4 : w2.heap.size < w4.heap.size := Nat.lt_of_lt_of_le HS3 hbl4.size
        clear hb4 hbl4 B0 HB3 HS3 L3
        have qa1 := L4.cell1
        go_wp2
        go_loopw [6] (fun i wr => ∃ k : Nat, k ≤ L ∧ i = .int .i64 ((k : Int) - 1) ∧ Hid (Bld wr w2.heap.size w2.heap.size (pre ++ up l k)) ∧ LB wr w.heap.size (.bool true) (.slice (some ⟨g, off, none⟩) L k1) ∧ Hid (Below w2.heap.size w2 wr) ∧ w2.heap.size < wr.heap.size) (fun i _ => (intOf i + 1).toNat)
        case atStart => exact ⟨L, Nat.le_refl _, rfl, BL4, L4, HB4, hs4⟩
        case round =>
          clear BL4 L4 HB4 hs4
          obtain ⟨k, hk, rfl, hbld, Lr, hbw, hsr⟩ := hrel
          have HBW := Lib.hid (HB.out.trans (hbw.out.mono HB.out.size))
          rcases k with _ | j
          · rw [show ((0 : Nat) : Int) - 1 = -1 from rfl]
            have HBL := Lib.hid (show Bld wr w2.heap.size w2.heap.size (Lib.itoa z) by rw [HP.out]; exact hbld.out)
            have HIN := Lib.hid (show Lib.itoa z ≠ [] by rw [HP.out, up_all HNE.out]; exact fun e => dd_ne _ (List.append_eq_nil_iff.1 e).2)
            clear hbld
            go_wp2_with fail
            refine (String_any _ _ (Lib.itoa z) _ HBL.out HIN.out).mono ?_
            rintro e w5 ⟨rfl, hb5⟩
            have HB5 := Lib.hid (HBW.out.trans (hb5.mono (HB.out.size)))
            clear hb5
            go_wp2
            go_ret2
            refine ⟨HB5.out, ?_⟩
            rw [HR.out]; rfl
          · rw [show ((j + 1 : Nat) : Int) - 1 = (j : Int) by omega]
            have hjL : (j : Int) < L := by omega
            have qr1 := Lr.cell1
            have hx1 := (hbw.out.cell (p := ⟨g, off + j, none⟩) (Nat.lt_of_lt_of_le hg (Nat.le_refl _))).trans (HX.out j (by omega))
            obtain ⟨d, hd⟩ : ∃ d, d = l.getD j 0 := ⟨_, rfl⟩
            rw [← hd] at hx1
            have hdb : (d : Int) < 1000000000 := by have := HN.out.1.getD j; rw [← hd] at this; omega
            have HD := Lib.hid hd
            have hlast : j + 1 = L ∨ j + 1 < L := by omega
            clear hd
            go_wp2_with fail
            refine (Itoa_any _ (by omega) (by omega) _ (HG2.out.step (hbw.out))).mono ?_
            rintro e w5 ⟨rfl, hb5⟩
            obtain ⟨s, hs⟩ : ∃ s : ByteArray, s = ⟨(Lib.itoa (d : Int)).toArray⟩ := ⟨_, rfl⟩
            rw [← hs]
            have hsd : s.data.toList = Lib.decDigits d := by rw [hs, itoa_pos (by omega)]; simp
            have hs9 : s.size ≤ 9 := by
              rw [Lib.size_eq, hsd]; exact dd_len9 (by omega)
            have hs9i : (s.size : Int) ≤ 9 := by omega
            have HSD := Lib.hid hsd
            have L5 := Lr.step hb5
            have B5 := Lib.hid (hbld.out.step hb5)
            have HB5 := Lib.hid (hbw.out.trans (hb5.mono (by omega)))
            have hsz5 : w2.heap.size < w5.heap.size := Nat.lt_of_lt_of_le hsr hb5.size
            have HUL := Lib.hid (up_len (k := j + 1) HN.out (by rw [← HL.out]; exact hL6))
            clear hs hsd hb5 hbld Lr qr1 hx1
            have qr1 := L5.cell1
            rcases hlast with hlast | hlast
            · have HLS := Lib.hid (show up l j = up l (j + 1) ++ Lib.decDigits d by rw [HD.out]; exact up_last HN.out (by rw [← HL.out]; exact hlast))
              have hlt : decide ((j : Int) < (L : Int) - 1) = false := by rw [decide_eq_false_iff_not]; omega
              clear hlast
              go_wp2_with fail
              refine (WriteString_any _ _ _ (Lib.decDigits d) s _ B5.out HSD.out (by have := HUL.out; have h2 := HSD.out; rw [← h2, ← Lib.size_eq]; simp; omega) (by omega)).mono ?_
              rintro e w6 ⟨rfl, hb6, hbl6⟩
              have B6 := Lib.hid (show Bld w6 w2.heap.size w2.heap.size (pre ++ up l j) by rw [HLS.out, ← List.append_assoc]; exact hb6)
              have L6 := LB.of_block L5 (hbl6.block _ hsz2)
              have HB6 := Lib.hid (HB5.out.trans hbl6)
              have hs6 : w2.heap.size < w6.heap.size := Nat.lt_of_lt_of_le hsz5 hbl6.size
              clear hb6 hbl6
              go_wp2
              go_roundw
              case rel => exact ⟨j, by omega, rfl, B6, L6, HB6, hs6⟩
              case measure => simp [intOf]
            · have HLS := Lib.hid (show up l j = up l (j + 1) ++ List.replicate (9 - s.size) 48 ++ Lib.decDigits d by rw [Lib.size_eq, HSD.out, HD.out]; exact up_more HN.out (by rw [← HL.out]; omega) (by rw [← HL.out]; omega))
              have hlt : (j : Int) < (L : Int) - 1 := by omega
              clear hlast
              go_wp2_with fail
              rw [show (9 : Int) - (s.size : Int) = ((9 - s.size : Nat) : Int) by omega]
              refine (Repeat_zeros _ _ (by omega)).mono ?_
              rintro e w6 ⟨rfl, hb6⟩
              obtain ⟨u, hu⟩ : ∃ u : ByteArray, u = ⟨(List.replicate (9 - s.size) (48 : UInt8)).toArray⟩ := ⟨_, rfl⟩
              rw [← hu]
              have HU := Lib.hid (show u.data.toList = List.replicate (9 - s.size) 48 by rw [hu])
              have B6 := Lib.hid (B5.out.step hb6)
              have L6 := L5.step hb6
              have HB6 := Lib.hid (HB5.out.trans (hb6.mono (by omega)))
              have hs6 : w2.heap.size < w6.heap.size := Nat.lt_of_lt_of_le hsz5 hb6.size
              clear hu hb6 qr1
              go_wp2_with fail
              refine (WriteString_any _ _ _ (List.replicate (9 - s.size) 48) u _ B6.out HU.out (by have := HUL.out; simp; omega) (by omega)).mono ?_
              rintro e w7 ⟨rfl, hb7, hbl7⟩
              have B7 := Lib.hid hb7
              have L7 := LB.of_block L6 (hbl7.block _ hsz2)
              have HB7 := Lib.hid (HB6.out.trans hbl7)
              have hs7 : w2.heap.size < w7.heap.size := Nat.lt_of_lt_of_le hs6 hbl7.size
              clear hb7 hbl7
              go_wp2_with fail
              refine (WriteString_any _ _ _ (Lib.decDigits d) s _ B7.out HSD.out (by have := HUL.out; have h2 := HSD.out; rw [← h2, ← Lib.size_eq]; simp; omega) (by omega)).mono ?_
              rintro e w8 ⟨rfl, hb8, hbl8⟩
              have B8 := Lib.hid (show Bld w8 w2.heap.size w2.heap.size (pre ++ up l j) by rw [HLS.out, ← List.append_assoc, ← List.append_assoc]; exact hb8)
              have L8 := LB.of_block L7 (hbl8.block _ hsz2)
              have HB8 := Lib.hid (HB7.out.trans hbl8)
              have hs8 : w2.heap.size < w8.heap.size := Nat.lt_of_lt_of_le hs7 hbl8.size
              clear hb8 hbl8
              go_wp2
              go_roundw
              case rel => exact ⟨j, by omega, rfl, B8, L8, HB8, hs8⟩
              case measure => simp [intOf]
  · have HR := Lib.hid (hr.out.trans (show T1 (numOf na la) = ([], 30) by rw [numOf_bad hv]; rfl))
    clear hr
    go_wp2
    go_ret2
    refine ⟨HB.out, ?_⟩
    rw [HR.out]; rfl
end Go.Proofs.YtnbanlmkoljghaaGreatDoor
