/- The reference's Parse of layer 05, at any text of at most 1000 bytes (written by gen_rparsed.py). -/
import Derived.Test.YtfklkphoplpebaaGreatDoorRTextD
import Derived.Test.YtfklkphoplpebaaGreatDoorDecQ
import Derived.Test.YtfklkphoplpebaaGreatDoorDecParse
import Derived.Test.YtfklkphoplpebaaGreatDoorRefc
import Derived.Test.YtfklkphoplpebaaGreatDoorRef
import Derived.Test.YtfklkphoplpebaaGreatDoorRefb
import Derived.Test.YtfklkphoplpebaaGreatDoorFlow
import Derived.Test.YtfklkphoplpebaaGreatDoorPutL
import Derived.Lib.SlBytesConst
import Derived.Lib.SmallJoins
namespace Go.Proofs.YtfklkphoplpebaaGreatDoor
open Go Go.RowKit Dig

/-- Block g reads as these bytes. -/
def RBy (w : World) (g : Nat) (l : List UInt8) : Prop := g < w.heap.size ∧ ∀ (j : Nat) (h : j < l.length), w.cell? ⟨g, j, none⟩ = some (.int .u8 (l[j].toNat : Int))
theorem RBy.step {w w' : World} {g : Nat} {l : List UInt8} (h : RBy w g l) (hb : Below w.heap.size w w') : RBy w' g l := ⟨Nat.lt_of_lt_of_le h.1 hb.size, fun j hj => (hb.cell (p := ⟨g, j, none⟩) h.1).trans (h.2 j hj)⟩
theorem RBy.far {w : World} {g : Nat} {l : List UInt8} (h : RBy w g l) {p : Addr} (hp : g ≠ p.block) (u : Value) : RBy (w.setCell p u) g l := ⟨by have := h.1; simpa [World.setCell] using this, fun j hj => by
  rw [← h.2 j hj]
  simp only [World.cell?, Below.heap_setCell w p u g hp]⟩
theorem RBy.of_own {w : World} {g : Nat} {l : List UInt8} (h : OwnB w g l) : RBy w g l := ⟨h.lt, fun j hj => h.cell j hj⟩
theorem RBy.mark (w : World) : RBy (w.alloc (.cells #[.int .u8 48] 5 (1, 2))) w.heap.size [48] := ⟨by simp, fun j hj => by
  obtain rfl : j = 0 := by simpa using hj
  rw [World.cell?_alloc_mark]; rfl⟩
theorem num_dig {l : List UInt8} {k : Nat} (hd : AllDig l) (hl : l.length ≤ 9 * k) : (dig ((num l : Nat) : Int).natAbs).length ≤ k := by
  rw [Int.natAbs_natCast, dig_len_le, bp_ten]
  exact Nat.lt_of_lt_of_le (num_lt hd) (Nat.pow_le_pow_right (by omega) hl)
theorem num_len {l : List UInt8} {k : Nat} (h : k ≤ 1001) (hd : AllDig l) (hl : l.length ≤ k) : (dig ((num l : Nat) : Int).natAbs).length ≤ 1100 := num_dig hd (by omega)
theorem ten_more {z : Int} (h : (dig z.natAbs).length ≤ 1100) : (dig (z * 10).natAbs).length ≤ 1101 := Len.mul (j := 1100) (k := 1) h (Len.small (by decide))
theorem mid_len' {q : Nat} (h : q ≤ 9) : (dig (q : Int).natAbs).length ≤ 1 := Len.small (z := (q : Int)) (by omega)
theorem pow_dig {z : Int} {m k : Nat} (h : z.natAbs < 10 ^ m) (hk : m ≤ 9 * k) : (dig z.natAbs).length ≤ k := by
  rw [dig_len_le, bp_ten]
  exact Nat.lt_of_lt_of_le h (Nat.pow_le_pow_right (by omega) hk)
theorem thou_mul {z : Int} {k : Nat} (h : (dig z.natAbs).length ≤ 112) (hk : k ≤ 18) : (dig (z * ((10 ^ k : Nat) : Int)).natAbs).length ≤ 2000 := by
  have h1 : (dig (((10 ^ k : Nat) : Int)).natAbs).length ≤ 3 := pow_len2 (k := k) (by omega)
  exact Nat.le_trans (Len.mul (j := 112) (k := 3) h h1) (by omega)
theorem intZ_big {z : Int} (h : 4 < (dig z.natAbs).length) : intZ z = (0, 6) := by
  have h1 : ¬ (dig z.natAbs).length ≤ 4 := by omega
  rw [dig_len_le] at h1
  have h2 : ¬ z.natAbs < 1000000000000000000000000000000000000 := h1
  unfold intZ
  rw [if_neg (by omega)]
theorem RInt_num (w : World) (va : Value) (z : Int) (ha : LV w w.heap.size va z) (hl : (dig z.natAbs).length ≤ 600) :
    Calls Tryz.prog 43 #[va] w fun e w' => Below w.heap.size w w' ∧ e = .returned (.tuple #[.int .i64 (intZ z).1, .int .i64 (intZ z).2]) := by
  refine (RInt_any w va _ _ ha).mono fun e w' ⟨hw, h⟩ => ⟨hw, ?_⟩
  rw [numOf_dig hl] at h
  exact h

set_option linter.unusedSimpArgs false in
set_option maxRecDepth 100000 in
set_option maxHeartbeats 8000000 in
theorem RParseD_any (w : World) (s : ByteArray) (d : Int) (hs : s.size ≤ 1000) :
    Calls Tryz.prog 15 #[.string s, .int .i64 d] w fun e w' => Below w.heap.size w w' ∧ e = .returned (.tuple #[.int .i64 (parseD s.data.toList d).1, .int .i64 (parseD s.data.toList d).2]) := by
  obtain ⟨i0, hi0, hz0, hz1, hz2⟩ := info_parts byte_info
  obtain ⟨r, hr⟩ : ∃ r, r = parseD s.data.toList d := ⟨_, rfl⟩; rw [← hr]; have HR := Lib.hid hr; clear hr
  have hsl : s.data.toList.length = s.size := (Lib.size_eq s).symm; have HSL := Lib.hid hsl; clear hsl
  by_cases hd : 0 ≤ d ∧ d ≤ 18
  · obtain ⟨D, rfl⟩ : ∃ k : Nat, d = (k : Int) := ⟨d.toNat, by omega⟩
    have HE := Lib.hid (show r = decP s.data.toList D by rw [HR.out]; unfold parseD; rw [if_pos hd, Int.toNat_natCast])
    have e1 : (0 : Int) ≤ (D : Int) := by omega
    have e2 : (D : Int) ≤ 18 := by omega
    have HD := Lib.hid (show D ≤ 18 by omega); have HS := Lib.hid hs; clear hd HR hs
    go_enter Tryz.func15, Tryz.ntmps15
    go_upto_region 5 with (fail)
    go_wp2
    go_loopw [6, 7, 8, 9] (fun dv pv bv iv wr => ∃ (i : Nat) (v : Value), v = dv ∧ pv = .int .i64 (plc (s.data.toList.take i) : Nat) ∧ bv = .bool (seenB (s.data.toList.take i)) ∧ iv = .int .i64 i ∧ i ≤ s.size ∧ Hid (OwnBV wr w.heap.size v (rowD (s.data.toList.take i))) ∧ Hid (Below w.heap.size w wr) ∧ Hid (w.heap.size ≤ wr.heap.size)) (fun _ _ _ iv _ => s.size - (intOf iv).toNat)
    case atStart => exact ⟨0, _, rfl, rfl, rfl, rfl, Nat.zero_le _, Lib.hid (OwnBV.nil _ _), Lib.hid (Below.refl _ _), Lib.hid (Nat.le_refl _)⟩
    case round =>
      obtain ⟨i, v, rfl, rfl, rfl, rfl, hi, hO, HB, HSZ⟩ := hrel
      by_cases hlt : i < s.size
      · obtain ⟨c, hc⟩ : ∃ c, c = s[i] := ⟨_, rfl⟩
        have htk : s.data.toList.take (i + 1) = s.data.toList.take i ++ [c] := by rw [hc]; exact take_bytes s i hlt
        have hcb0 : s[i].toNat = c.toNat := by rw [hc]
        have hil : (i : Int) < (s.size : Int) := by omega
        have HTK := Lib.hid htk; clear htk hc
        obtain ⟨P, hP⟩ : ∃ P, P = s.data.toList.take i := ⟨_, rfl⟩; have HPL := Lib.hid (show P.length ≤ s.size by rw [hP, List.length_take, HSL.out]; omega); rw [← hP] at hO HTK ⊢; clear hP
        have HPP := plc_le P; have HPS := HPL.out; have HS1 := HS.out
        obtain ⟨p, hp⟩ : ∃ p, p = plc P := ⟨_, rfl⟩; rw [← hp] at HPP ⊢; have HP := Lib.hid hp; clear hp
        obtain ⟨b, hb⟩ : ∃ b, b = seenB P := ⟨_, rfl⟩; rw [← hb]; have HSB := Lib.hid hb; clear hb
        rcases hO.out.form with ⟨hv, hl⟩ | ⟨g, cap, hv, hcap, hcap2, hgB, hown⟩
        · have hn0 := Lib.hid hl
          subst hv
          by_cases hdig : isD c = true
          · have hc1 : (48 : Int) ≤ (c.toNat : Int) := by have := (isD_iff.1 hdig).1; omega
            have hc2 : (c.toNat : Int) ≤ 57 := by have := (isD_iff.1 hdig).2; omega
            have hc46 : ((c.toNat : Int) == 46) = false := by rw [beq_eq_false_iff_ne]; omega
            have hcn : (c == 46) = false := by rw [beq_eq_false_iff_ne]; intro e; subst e; revert hdig; decide
            have hcase : c = 48 ∨ c ≠ 48 := Classical.em _
            rcases hcase with hq | hq
            · skip
              have hr0 := hn0.out
              have hcb : ((c.toNat : Int) == 48) = true := by rw [hq]; rfl
              have HROW := Lib.hid (show rowD (P ++ [c]) = rowD P by rw [rowD_zero hdig hr0 hq, hr0])
              clear hr0 hq
              cases b
              · skip
                have HPN := Lib.hid (show plc (s.data.toList.take (i + 1)) = p by rw [HTK.out, plc_snoc, ← HSB.out, ← HP.out]; simp [hdig])
                have HSN := Lib.hid (show seenB (s.data.toList.take (i + 1)) = false by rw [HTK.out, seen_snoc, ← HSB.out]; simp [hcn])
                clear hdig hcn
                go_wp2
                go_roundw
                case rel => exact ⟨i + 1, _, rfl, by first | (rw [HPN.out]; done) | (rw [HPN.out]; go_num), by rw [HSN.out], by go_num, by omega, Lib.hid (by rw [HTK.out, HROW.out]; exact hO.out), HB, HSZ⟩
                case measure => simp [intOf]; omega
              · skip
                have HPN := Lib.hid (show plc (s.data.toList.take (i + 1)) = p + 1 by rw [HTK.out, plc_snoc, ← HSB.out, ← HP.out]; simp [hdig])
                have HSN := Lib.hid (show seenB (s.data.toList.take (i + 1)) = true by rw [HTK.out, seen_snoc, ← HSB.out]; simp [hcn])
                clear hdig hcn
                go_wp2
                go_roundw
                case rel => exact ⟨i + 1, _, rfl, by first | (rw [HPN.out]; done) | (rw [HPN.out]; go_num), by rw [HSN.out], by go_num, by omega, Lib.hid (by rw [HTK.out, HROW.out]; exact hO.out), HB, HSZ⟩
                case measure => simp [intOf]; omega
            · skip
              have hcb : ((c.toNat : Int) == 48) = false := by rw [beq_eq_false_iff_ne]; intro e; exact hq (UInt8.toNat.inj (by show c.toNat = 48; omega))
              have HROW := Lib.hid (show rowD (P ++ [c]) = rowD P ++ [c] from rowD_push hdig (.inr hq))
              clear hq
              obtain ⟨l, hl'⟩ : ∃ l, l = rowD P := ⟨_, rfl⟩; rw [← hl'] at hO HROW; have hll : l.length = 0 := by rw [hl']; rw [hn0.out]; rfl
              clear hl'
              cases b
              · skip
                have HPN := Lib.hid (show plc (s.data.toList.take (i + 1)) = p by rw [HTK.out, plc_snoc, ← HSB.out, ← HP.out]; simp [hdig])
                have HSN := Lib.hid (show seenB (s.data.toList.take (i + 1)) = false by rw [HTK.out, seen_snoc, ← HSB.out]; simp [hcn])
                have hown := hO.out.alloc (.cells #[.int .u8 (c.toNat : Int)] 5)
                clear hdig hcn
                go_wp2_with (at_builtin; refine wpList_append_own_at _ rfl _ _ 31 rfl w.heap.size 5 i0 (.int .u8 0) 1 1 Tryz.underlying31 hi0 hz0 hz1 hz2 rfl (by decide) (.slice none 0 0) l.length (Lib.byteCells l) rfl hown ⟨wr.heap.size, 0, none⟩ 1 1 [.int .u8 (c.toNat : Int)] rfl rfl (cell_one_new _ _ _) (by intro u hu; simp at hu; subst hu; rfl) (by unfold maxLen; omega) (by omega) (by have := HSZ.out; simp; omega) ?_)
                intro v' w' hown' hgrow hne hblk
                have HV := Lib.hid (show OwnBV w' w.heap.size v' (l ++ [c]) by first | exact push_byte rfl hown' | exact push_byte rfl (by rw [hll]; exact hown'))
                have HB2 := Lib.hid ((HB.out.alloc HB.out.size (.cells #[.int .u8 (c.toNat : Int)] 5)).grown hgrow (by have := HB.out.size; simp; omega) (fun g he => by have := (World.ownsRow.lt hO.out g he).1; omega))
                have HS2 := Lib.hid (show w.heap.size ≤ w'.heap.size by have h1 := hgrow.size; have h2 := HSZ.out; simp at h1; omega)
                clear hown' hgrow hne hblk hown
                go_wp2
                go_roundw
                case rel => exact ⟨i + 1, _, rfl, by first | (rw [HPN.out]; done) | (rw [HPN.out]; go_num), by rw [HSN.out], by go_num, by omega, Lib.hid (by rw [HTK.out, HROW.out]; exact HV.out), HB2, HS2⟩
                case measure => simp [intOf]; omega
              · skip
                have HPN := Lib.hid (show plc (s.data.toList.take (i + 1)) = p + 1 by rw [HTK.out, plc_snoc, ← HSB.out, ← HP.out]; simp [hdig])
                have HSN := Lib.hid (show seenB (s.data.toList.take (i + 1)) = true by rw [HTK.out, seen_snoc, ← HSB.out]; simp [hcn])
                have hown := hO.out.alloc (.cells #[.int .u8 (c.toNat : Int)] 5)
                clear hdig hcn
                go_wp2_with (at_builtin; refine wpList_append_own_at _ rfl _ _ 31 rfl w.heap.size 5 i0 (.int .u8 0) 1 1 Tryz.underlying31 hi0 hz0 hz1 hz2 rfl (by decide) (.slice none 0 0) l.length (Lib.byteCells l) rfl hown ⟨wr.heap.size, 0, none⟩ 1 1 [.int .u8 (c.toNat : Int)] rfl rfl (cell_one_new _ _ _) (by intro u hu; simp at hu; subst hu; rfl) (by unfold maxLen; omega) (by omega) (by have := HSZ.out; simp; omega) ?_)
                intro v' w' hown' hgrow hne hblk
                have HV := Lib.hid (show OwnBV w' w.heap.size v' (l ++ [c]) by first | exact push_byte rfl hown' | exact push_byte rfl (by rw [hll]; exact hown'))
                have HB2 := Lib.hid ((HB.out.alloc HB.out.size (.cells #[.int .u8 (c.toNat : Int)] 5)).grown hgrow (by have := HB.out.size; simp; omega) (fun g he => by have := (World.ownsRow.lt hO.out g he).1; omega))
                have HS2 := Lib.hid (show w.heap.size ≤ w'.heap.size by have h1 := hgrow.size; have h2 := HSZ.out; simp at h1; omega)
                clear hown' hgrow hne hblk hown
                go_wp2
                go_roundw
                case rel => exact ⟨i + 1, _, rfl, by first | (rw [HPN.out]; done) | (rw [HPN.out]; go_num), by rw [HSN.out], by go_num, by omega, Lib.hid (by rw [HTK.out, HROW.out]; exact HV.out), HB2, HS2⟩
                case measure => simp [intOf]; omega
          · have hdn : isD c = false := by simpa using hdig
            have HROW := Lib.hid (show rowD (P ++ [c]) = rowD P from rowD_skip hdn)
            have hlow : (c.toNat : Int) < 48 ∨ ((48 : Int) ≤ (c.toNat : Int) ∧ (57 : Int) < (c.toNat : Int)) := by have h : ¬ IsDig c := fun k => hdig (isD_iff.2 k); unfold IsDig at h; omega
            rcases hlow with hc1 | ⟨hc1, hc2⟩
            · skip
              by_cases h46 : c = 46
              · skip
                have hc46 : ((c.toNat : Int) == 46) = true := by rw [h46]; rfl
                have hcn : (c == 46) = true := by rw [h46]; rfl
                have HPN := Lib.hid (show plc (s.data.toList.take (i + 1)) = p by rw [HTK.out, plc_snoc, ← HSB.out, ← HP.out]; simp [hdn])
                have HSN := Lib.hid (show seenB (s.data.toList.take (i + 1)) = true by rw [HTK.out, seen_snoc, ← HSB.out]; simp [hcn])
                clear h46 hdn hdig hcn
                go_wp2
                go_roundw
                case rel => exact ⟨i + 1, _, rfl, by first | (rw [HPN.out]; done) | (rw [HPN.out]; go_num), by rw [HSN.out], by go_num, by omega, Lib.hid (by rw [HTK.out, HROW.out]; exact hO.out), HB, HSZ⟩
                case measure => simp [intOf]; omega
              · skip
                have hc46 : ((c.toNat : Int) == 46) = false := by rw [beq_eq_false_iff_ne]; intro e; exact h46 (UInt8.toNat.inj (by show c.toNat = 46; omega))
                have hcn : (c == 46) = false := by rw [beq_eq_false_iff_ne]; exact h46
                have HPN := Lib.hid (show plc (s.data.toList.take (i + 1)) = p by rw [HTK.out, plc_snoc, ← HSB.out, ← HP.out]; simp [hdn])
                have HSN := Lib.hid (show seenB (s.data.toList.take (i + 1)) = b by rw [HTK.out, seen_snoc, ← HSB.out]; simp [hcn])
                clear h46 hdn hdig hcn
                go_wp2
                go_roundw
                case rel => exact ⟨i + 1, _, rfl, by first | (rw [HPN.out]; done) | (rw [HPN.out]; go_num), by rw [HSN.out], by go_num, by omega, Lib.hid (by rw [HTK.out, HROW.out]; exact hO.out), HB, HSZ⟩
                case measure => simp [intOf]; omega
            · skip
              by_cases h46 : c = 46
              · skip
                subst h46; exact absurd hc2 (by decide)
              · skip
                have hc46 : ((c.toNat : Int) == 46) = false := by rw [beq_eq_false_iff_ne]; intro e; exact h46 (UInt8.toNat.inj (by show c.toNat = 46; omega))
                have hcn : (c == 46) = false := by rw [beq_eq_false_iff_ne]; exact h46
                have HPN := Lib.hid (show plc (s.data.toList.take (i + 1)) = p by rw [HTK.out, plc_snoc, ← HSB.out, ← HP.out]; simp [hdn])
                have HSN := Lib.hid (show seenB (s.data.toList.take (i + 1)) = b by rw [HTK.out, seen_snoc, ← HSB.out]; simp [hcn])
                clear h46 hdn hdig hcn
                go_wp2
                go_roundw
                case rel => exact ⟨i + 1, _, rfl, by first | (rw [HPN.out]; done) | (rw [HPN.out]; go_num), by rw [HSN.out], by go_num, by omega, Lib.hid (by rw [HTK.out, HROW.out]; exact hO.out), HB, HSZ⟩
                case measure => simp [intOf]; omega
        · have hlen : ((rowD P).length : Int) ≤ (cap : Int) := by omega
          subst hv
          obtain ⟨m, hm⟩ : ∃ m, m = (rowD P).length := ⟨_, rfl⟩; rw [← hm] at hO hlen hcap ⊢; have HM := Lib.hid hm; have hml : m ≤ 1000 := by have := rowD_le P; omega
          clear hm hown
          by_cases hdig : isD c = true
          · have hc1 : (48 : Int) ≤ (c.toNat : Int) := by have := (isD_iff.1 hdig).1; omega
            have hc2 : (c.toNat : Int) ≤ 57 := by have := (isD_iff.1 hdig).2; omega
            have hc46 : ((c.toNat : Int) == 46) = false := by rw [beq_eq_false_iff_ne]; omega
            have hcn : (c == 46) = false := by rw [beq_eq_false_iff_ne]; intro e; subst e; revert hdig; decide
            have hcase : m = 0 ∧ c = 48 ∨ 0 < m ∨ m = 0 ∧ c ≠ 48 := (Nat.eq_zero_or_pos m).elim (fun h => (Classical.em (c = 48)).elim (fun h2 => .inl ⟨h, h2⟩) (fun h2 => .inr (.inr ⟨h, h2⟩))) (fun h => .inr (.inl h))
            rcases hcase with hq | hq | hq
            · skip
              obtain ⟨hm0, hq⟩ := hq; subst hm0
              have hr0 : rowD P = [] := List.eq_nil_of_length_eq_zero HM.out.symm
              have hcb : ((c.toNat : Int) == 48) = true := by rw [hq]; rfl
              have HROW := Lib.hid (show rowD (P ++ [c]) = rowD P by rw [rowD_zero hdig hr0 hq, hr0])
              clear hr0 hq
              cases b
              · skip
                have HPN := Lib.hid (show plc (s.data.toList.take (i + 1)) = p by rw [HTK.out, plc_snoc, ← HSB.out, ← HP.out]; simp [hdig])
                have HSN := Lib.hid (show seenB (s.data.toList.take (i + 1)) = false by rw [HTK.out, seen_snoc, ← HSB.out]; simp [hcn])
                clear hdig hcn
                go_wp2
                go_roundw
                case rel => exact ⟨i + 1, _, rfl, by first | (rw [HPN.out]; done) | (rw [HPN.out]; go_num), by rw [HSN.out], by go_num, by omega, Lib.hid (by rw [HTK.out, HROW.out]; exact hO.out), HB, HSZ⟩
                case measure => simp [intOf]; omega
              · skip
                have HPN := Lib.hid (show plc (s.data.toList.take (i + 1)) = p + 1 by rw [HTK.out, plc_snoc, ← HSB.out, ← HP.out]; simp [hdig])
                have HSN := Lib.hid (show seenB (s.data.toList.take (i + 1)) = true by rw [HTK.out, seen_snoc, ← HSB.out]; simp [hcn])
                clear hdig hcn
                go_wp2
                go_roundw
                case rel => exact ⟨i + 1, _, rfl, by first | (rw [HPN.out]; done) | (rw [HPN.out]; go_num), by rw [HSN.out], by go_num, by omega, Lib.hid (by rw [HTK.out, HROW.out]; exact hO.out), HB, HSZ⟩
                case measure => simp [intOf]; omega
            · skip
              have hm0 : (0 : Int) < (m : Int) := by omega
              have HROW := Lib.hid (show rowD (P ++ [c]) = rowD P ++ [c] from rowD_push hdig (.inl (fun e => by have h := HM.out; rw [e] at h; simp at h; omega)))
              clear hq
              obtain ⟨l, hl'⟩ : ∃ l, l = rowD P := ⟨_, rfl⟩; rw [← hl'] at hO HROW; have hll : l.length = m := by rw [hl']; exact HM.out.symm
              clear hl'
              cases b
              · skip
                have HPN := Lib.hid (show plc (s.data.toList.take (i + 1)) = p by rw [HTK.out, plc_snoc, ← HSB.out, ← HP.out]; simp [hdig])
                have HSN := Lib.hid (show seenB (s.data.toList.take (i + 1)) = false by rw [HTK.out, seen_snoc, ← HSB.out]; simp [hcn])
                have hown := hO.out.alloc (.cells #[.int .u8 (c.toNat : Int)] 5)
                clear hdig hcn
                go_wp2_with (at_builtin; refine wpList_append_own_at _ rfl _ _ 31 rfl w.heap.size 5 i0 (.int .u8 0) 1 1 Tryz.underlying31 hi0 hz0 hz1 hz2 rfl (by decide) (.slice (some ⟨g, 0, none⟩) m cap) l.length (Lib.byteCells l) rfl hown ⟨wr.heap.size, 0, none⟩ 1 1 [.int .u8 (c.toNat : Int)] rfl rfl (cell_one_new _ _ _) (by intro u hu; simp at hu; subst hu; rfl) (by unfold maxLen; omega) (by omega) (by have := HSZ.out; simp; omega) ?_)
                intro v' w' hown' hgrow hne hblk
                have HV := Lib.hid (show OwnBV w' w.heap.size v' (l ++ [c]) by first | exact push_byte rfl hown' | exact push_byte rfl (by rw [hll]; exact hown'))
                have HB2 := Lib.hid ((HB.out.alloc HB.out.size (.cells #[.int .u8 (c.toNat : Int)] 5)).grown hgrow (by have := HB.out.size; simp; omega) (fun g he => by have := (World.ownsRow.lt hO.out g he).1; omega))
                have HS2 := Lib.hid (show w.heap.size ≤ w'.heap.size by have h1 := hgrow.size; have h2 := HSZ.out; simp at h1; omega)
                clear hown' hgrow hne hblk hown
                go_wp2
                go_roundw
                case rel => exact ⟨i + 1, _, rfl, by first | (rw [HPN.out]; done) | (rw [HPN.out]; go_num), by rw [HSN.out], by go_num, by omega, Lib.hid (by rw [HTK.out, HROW.out]; exact HV.out), HB2, HS2⟩
                case measure => simp [intOf]; omega
              · skip
                have HPN := Lib.hid (show plc (s.data.toList.take (i + 1)) = p + 1 by rw [HTK.out, plc_snoc, ← HSB.out, ← HP.out]; simp [hdig])
                have HSN := Lib.hid (show seenB (s.data.toList.take (i + 1)) = true by rw [HTK.out, seen_snoc, ← HSB.out]; simp [hcn])
                have hown := hO.out.alloc (.cells #[.int .u8 (c.toNat : Int)] 5)
                clear hdig hcn
                go_wp2_with (at_builtin; refine wpList_append_own_at _ rfl _ _ 31 rfl w.heap.size 5 i0 (.int .u8 0) 1 1 Tryz.underlying31 hi0 hz0 hz1 hz2 rfl (by decide) (.slice (some ⟨g, 0, none⟩) m cap) l.length (Lib.byteCells l) rfl hown ⟨wr.heap.size, 0, none⟩ 1 1 [.int .u8 (c.toNat : Int)] rfl rfl (cell_one_new _ _ _) (by intro u hu; simp at hu; subst hu; rfl) (by unfold maxLen; omega) (by omega) (by have := HSZ.out; simp; omega) ?_)
                intro v' w' hown' hgrow hne hblk
                have HV := Lib.hid (show OwnBV w' w.heap.size v' (l ++ [c]) by first | exact push_byte rfl hown' | exact push_byte rfl (by rw [hll]; exact hown'))
                have HB2 := Lib.hid ((HB.out.alloc HB.out.size (.cells #[.int .u8 (c.toNat : Int)] 5)).grown hgrow (by have := HB.out.size; simp; omega) (fun g he => by have := (World.ownsRow.lt hO.out g he).1; omega))
                have HS2 := Lib.hid (show w.heap.size ≤ w'.heap.size by have h1 := hgrow.size; have h2 := HSZ.out; simp at h1; omega)
                clear hown' hgrow hne hblk hown
                go_wp2
                go_roundw
                case rel => exact ⟨i + 1, _, rfl, by first | (rw [HPN.out]; done) | (rw [HPN.out]; go_num), by rw [HSN.out], by go_num, by omega, Lib.hid (by rw [HTK.out, HROW.out]; exact HV.out), HB2, HS2⟩
                case measure => simp [intOf]; omega
            · skip
              obtain ⟨hm0, hq⟩ := hq; subst hm0
              have hcb : ((c.toNat : Int) == 48) = false := by rw [beq_eq_false_iff_ne]; intro e; exact hq (UInt8.toNat.inj (by show c.toNat = 48; omega))
              have HROW := Lib.hid (show rowD (P ++ [c]) = rowD P ++ [c] from rowD_push hdig (.inr hq))
              clear hq
              obtain ⟨l, hl'⟩ : ∃ l, l = rowD P := ⟨_, rfl⟩; rw [← hl'] at hO HROW; have hll : l.length = 0 := by rw [hl']; exact HM.out.symm
              clear hl'
              cases b
              · skip
                have HPN := Lib.hid (show plc (s.data.toList.take (i + 1)) = p by rw [HTK.out, plc_snoc, ← HSB.out, ← HP.out]; simp [hdig])
                have HSN := Lib.hid (show seenB (s.data.toList.take (i + 1)) = false by rw [HTK.out, seen_snoc, ← HSB.out]; simp [hcn])
                have hown := hO.out.alloc (.cells #[.int .u8 (c.toNat : Int)] 5)
                clear hdig hcn
                go_wp2_with (at_builtin; refine wpList_append_own_at _ rfl _ _ 31 rfl w.heap.size 5 i0 (.int .u8 0) 1 1 Tryz.underlying31 hi0 hz0 hz1 hz2 rfl (by decide) (.slice (some ⟨g, 0, none⟩) 0 cap) l.length (Lib.byteCells l) rfl hown ⟨wr.heap.size, 0, none⟩ 1 1 [.int .u8 (c.toNat : Int)] rfl rfl (cell_one_new _ _ _) (by intro u hu; simp at hu; subst hu; rfl) (by unfold maxLen; omega) (by omega) (by have := HSZ.out; simp; omega) ?_)
                intro v' w' hown' hgrow hne hblk
                have HV := Lib.hid (show OwnBV w' w.heap.size v' (l ++ [c]) by first | exact push_byte rfl hown' | exact push_byte rfl (by rw [hll]; exact hown'))
                have HB2 := Lib.hid ((HB.out.alloc HB.out.size (.cells #[.int .u8 (c.toNat : Int)] 5)).grown hgrow (by have := HB.out.size; simp; omega) (fun g he => by have := (World.ownsRow.lt hO.out g he).1; omega))
                have HS2 := Lib.hid (show w.heap.size ≤ w'.heap.size by have h1 := hgrow.size; have h2 := HSZ.out; simp at h1; omega)
                clear hown' hgrow hne hblk hown
                go_wp2
                go_roundw
                case rel => exact ⟨i + 1, _, rfl, by first | (rw [HPN.out]; done) | (rw [HPN.out]; go_num), by rw [HSN.out], by go_num, by omega, Lib.hid (by rw [HTK.out, HROW.out]; exact HV.out), HB2, HS2⟩
                case measure => simp [intOf]; omega
              · skip
                have HPN := Lib.hid (show plc (s.data.toList.take (i + 1)) = p + 1 by rw [HTK.out, plc_snoc, ← HSB.out, ← HP.out]; simp [hdig])
                have HSN := Lib.hid (show seenB (s.data.toList.take (i + 1)) = true by rw [HTK.out, seen_snoc, ← HSB.out]; simp [hcn])
                have hown := hO.out.alloc (.cells #[.int .u8 (c.toNat : Int)] 5)
                clear hdig hcn
                go_wp2_with (at_builtin; refine wpList_append_own_at _ rfl _ _ 31 rfl w.heap.size 5 i0 (.int .u8 0) 1 1 Tryz.underlying31 hi0 hz0 hz1 hz2 rfl (by decide) (.slice (some ⟨g, 0, none⟩) 0 cap) l.length (Lib.byteCells l) rfl hown ⟨wr.heap.size, 0, none⟩ 1 1 [.int .u8 (c.toNat : Int)] rfl rfl (cell_one_new _ _ _) (by intro u hu; simp at hu; subst hu; rfl) (by unfold maxLen; omega) (by omega) (by have := HSZ.out; simp; omega) ?_)
                intro v' w' hown' hgrow hne hblk
                have HV := Lib.hid (show OwnBV w' w.heap.size v' (l ++ [c]) by first | exact push_byte rfl hown' | exact push_byte rfl (by rw [hll]; exact hown'))
                have HB2 := Lib.hid ((HB.out.alloc HB.out.size (.cells #[.int .u8 (c.toNat : Int)] 5)).grown hgrow (by have := HB.out.size; simp; omega) (fun g he => by have := (World.ownsRow.lt hO.out g he).1; omega))
                have HS2 := Lib.hid (show w.heap.size ≤ w'.heap.size by have h1 := hgrow.size; have h2 := HSZ.out; simp at h1; omega)
                clear hown' hgrow hne hblk hown
                go_wp2
                go_roundw
                case rel => exact ⟨i + 1, _, rfl, by first | (rw [HPN.out]; done) | (rw [HPN.out]; go_num), by rw [HSN.out], by go_num, by omega, Lib.hid (by rw [HTK.out, HROW.out]; exact HV.out), HB2, HS2⟩
                case measure => simp [intOf]; omega
          · have hdn : isD c = false := by simpa using hdig
            have HROW := Lib.hid (show rowD (P ++ [c]) = rowD P from rowD_skip hdn)
            have hlow : (c.toNat : Int) < 48 ∨ ((48 : Int) ≤ (c.toNat : Int) ∧ (57 : Int) < (c.toNat : Int)) := by have h : ¬ IsDig c := fun k => hdig (isD_iff.2 k); unfold IsDig at h; omega
            rcases hlow with hc1 | ⟨hc1, hc2⟩
            · skip
              by_cases h46 : c = 46
              · skip
                have hc46 : ((c.toNat : Int) == 46) = true := by rw [h46]; rfl
                have hcn : (c == 46) = true := by rw [h46]; rfl
                have HPN := Lib.hid (show plc (s.data.toList.take (i + 1)) = p by rw [HTK.out, plc_snoc, ← HSB.out, ← HP.out]; simp [hdn])
                have HSN := Lib.hid (show seenB (s.data.toList.take (i + 1)) = true by rw [HTK.out, seen_snoc, ← HSB.out]; simp [hcn])
                clear h46 hdn hdig hcn
                go_wp2
                go_roundw
                case rel => exact ⟨i + 1, _, rfl, by first | (rw [HPN.out]; done) | (rw [HPN.out]; go_num), by rw [HSN.out], by go_num, by omega, Lib.hid (by rw [HTK.out, HROW.out]; exact hO.out), HB, HSZ⟩
                case measure => simp [intOf]; omega
              · skip
                have hc46 : ((c.toNat : Int) == 46) = false := by rw [beq_eq_false_iff_ne]; intro e; exact h46 (UInt8.toNat.inj (by show c.toNat = 46; omega))
                have hcn : (c == 46) = false := by rw [beq_eq_false_iff_ne]; exact h46
                have HPN := Lib.hid (show plc (s.data.toList.take (i + 1)) = p by rw [HTK.out, plc_snoc, ← HSB.out, ← HP.out]; simp [hdn])
                have HSN := Lib.hid (show seenB (s.data.toList.take (i + 1)) = b by rw [HTK.out, seen_snoc, ← HSB.out]; simp [hcn])
                clear h46 hdn hdig hcn
                go_wp2
                go_roundw
                case rel => exact ⟨i + 1, _, rfl, by first | (rw [HPN.out]; done) | (rw [HPN.out]; go_num), by rw [HSN.out], by go_num, by omega, Lib.hid (by rw [HTK.out, HROW.out]; exact hO.out), HB, HSZ⟩
                case measure => simp [intOf]; omega
            · skip
              by_cases h46 : c = 46
              · skip
                subst h46; exact absurd hc2 (by decide)
              · skip
                have hc46 : ((c.toNat : Int) == 46) = false := by rw [beq_eq_false_iff_ne]; intro e; exact h46 (UInt8.toNat.inj (by show c.toNat = 46; omega))
                have hcn : (c == 46) = false := by rw [beq_eq_false_iff_ne]; exact h46
                have HPN := Lib.hid (show plc (s.data.toList.take (i + 1)) = p by rw [HTK.out, plc_snoc, ← HSB.out, ← HP.out]; simp [hdn])
                have HSN := Lib.hid (show seenB (s.data.toList.take (i + 1)) = b by rw [HTK.out, seen_snoc, ← HSB.out]; simp [hcn])
                clear h46 hdn hdig hcn
                go_wp2
                go_roundw
                case rel => exact ⟨i + 1, _, rfl, by first | (rw [HPN.out]; done) | (rw [HPN.out]; go_num), by rw [HSN.out], by go_num, by omega, Lib.hid (by rw [HTK.out, HROW.out]; exact hO.out), HB, HSZ⟩
                case measure => simp [intOf]; omega
      · obtain rfl : i = s.size := by omega
        rw [show s.data.toList.take s.size = s.data.toList from List.take_of_length_le (by rw [HSL.out]; exact Nat.le_refl _)] at hO ⊢
        generalize HSd : s.data.toList = S at *
        have HSE := Lib.hid HSd; clear HSd
        obtain ⟨wo, hwo⟩ : ∃ wo : World, wo = wr := ⟨_, rfl⟩; subst hwo
        obtain ⟨p, hp⟩ : ∃ p, p = plc S := ⟨_, rfl⟩; rw [← hp]; have HP := Lib.hid hp; have hps : p ≤ s.size := by rw [hp, ← HSL.out]; exact plc_le S
        clear hp
        have hs1 := HS.out
        generalize seenB S = bb
        by_cases hpl : D < p
        · have HRR := Lib.hid (show r = (0, 5) by rw [HE.out]; unfold decP; rw [← HP.out, if_pos hpl])
          have hpi : (D : Int) < (p : Int) := by omega
          clear hpl
          go_wp2
          go_ret2
          rw [HRR.out]; exact ⟨HB.out, rfl⟩
        · have HQ := Lib.hid (show r = if decT (numS S) p = S then intZ (numS S * (10 ^ (D - p) : Nat)) else (0, 5) by rw [HE.out]; unfold decP; rw [← HP.out, if_neg hpl])
          have hpi : (p : Int) ≤ (D : Int) := by omega
          have HPD := Lib.hid (show p ≤ D by omega)
          clear hpl HE
          have hrl := rowD_le S; rw [HSL.out] at hrl
          obtain ⟨A, n, cp, rfl, HF⟩ : ∃ A n cp, v = .slice A n cp ∧ Hid ((n = 0 ∧ rowD S = []) ∨ (0 < n ∧ n = (rowD S).length ∧ n ≤ cp ∧ ∃ g, A = some ⟨g, 0, none⟩ ∧ OwnB wo g (rowD S))) := by
            rcases hO.out.form with ⟨hv, hl⟩ | ⟨g, cap, hv, hcap, hcap2, hgB, hown⟩
            · exact ⟨_, _, _, hv, Lib.hid (.inl ⟨rfl, hl⟩)⟩
            · rcases Nat.eq_zero_or_pos (rowD S).length with h | h
              · exact ⟨_, _, _, hv, Lib.hid (.inl ⟨h, List.eq_nil_of_length_eq_zero h⟩)⟩
              · exact ⟨_, _, _, hv, Lib.hid (.inr ⟨h, rfl, hcap, g, rfl, hown⟩)⟩
          clear hO
          go_upto_if 62 with (fail)
          go_cut [6] (fun dv wx => ∃ (g n cp : Nat), dv = .slice (some ⟨g, 0, none⟩) n cp ∧ Hid (RBy wx g (rowE S)) ∧ Hid (n = (rowE S).length) ∧ Hid (n ≤ cp) ∧ Hid (Below w.heap.size w wx))
          case first =>
            rcases HF.out with ⟨hn, hl⟩ | ⟨hn, hn2, hn3, g, rfl, hown⟩
            · subst hn
              have HRE := Lib.hid (show rowE S = [48] by unfold rowE; rw [if_pos hl]); clear hl HF
              have hcv := Lib.run_convert_bytes_const (P := Tryz.prog) wo 31 5 #[.int .u8 48] 1 1 Tryz.underlying31 Tryz.underlying5
              go_wp2
              go_meet
              exact ⟨_, _, _, rfl, Lib.hid (by rw [HRE.out]; exact RBy.mark _), Lib.hid (by rw [HRE.out]; rfl), Lib.hid (Nat.le_refl _), Lib.hid (below_alloc1 HB.out _)⟩
            · have hni : (0 : Int) < (n : Int) := by omega
              have hnz : ((n : Int) == 0) = false := by rw [beq_eq_false_iff_ne]; omega
              have HRE := Lib.hid (show rowE S = rowD S by unfold rowE; rw [if_neg (fun e => by rw [e] at hn2; simp at hn2; omega)]); clear HF hn
              have HOW := Lib.hid hown; have HN2 := Lib.hid hn2; clear hown hn2
              go_simp
              go_wp2
              go_meet
              exact ⟨_, _, _, rfl, Lib.hid (by rw [HRE.out]; exact RBy.of_own HOW.out), Lib.hid (by rw [HRE.out]; exact HN2.out), Lib.hid hn3, HB⟩
          case rest =>
            clear HF HB
            obtain ⟨g, n, cp, rfl, HO, HN, HCP, HB⟩ := hcut
            obtain ⟨T, hT⟩ : ∃ T, T = rowE S := ⟨_, rfl⟩; rw [← hT] at HO HN; have HT := Lib.hid hT; have HTD := Lib.hid (show AllDig T by rw [hT]; exact rowE_dig S); have htl : T.length ≤ 1001 := by have h := rowE_le S; rw [← hT, HSL.out] at h; omega
            clear hT hrl
            have hnl1 := Nat.le_of_eq HN.out; have hnl2 := Nat.le_of_eq HN.out.symm; have hncp := HCP.out; have HNUM := Lib.hid (show num T = num (fil S) by rw [HT.out]; exact num_rowE S)
            go_wp2_with fail
            refine (ROf_any _ 0 (by decide) (by decide)).mono ?_
            rintro e w1 ⟨hb1, v1, rfl, hv1⟩
            have B2 := Lib.hid hb1
            have z2 := B2.out.size
            have HB3 := Lib.hid (HB.out.trans (B2.out.mono HB.out.size))
            clear hb1
            rw [show (0 : Int) = ((num (T.take 0) : Nat) : Int) from rfl] at hv1
            generalize hz0n : ((num (T.take 0) : Nat) : Int) = z0n at hv1; have HZ0 := Lib.hid hz0n; clear hz0n
            have hbw : w.heap.size ≤ w1.heap.size := HB3.out.size
            obtain ⟨n4, Ad4, l4, c4, rfl, hv4⟩ := hv1.opened
            have Hn_4 := Lib.hid hv4
            clear hv1 hv4
            go_upto_region 20 with (fail)
            obtain ⟨w5, hW5⟩ : ∃ w5 : World, w5 = (w1.alloc (.cells #[.bool n4, .slice Ad4 l4 c4] 66)) := ⟨_, rfl⟩
            rw [← hW5]
            have hb5 : Below w1.heap.size w1 w5 := by rw [hW5]; (repeat' (first | exact Below.refl _ _ | refine Below.drew ?_ | refine Below.alloc ?_ (by first | exact Nat.le_refl _ | (simp; done) | (simp; omega)) _))
            have Ln_5 : LB w5 (w1.heap.size) (.bool n4) (.slice Ad4 l4 c4) := by rw [hW5]; (repeat (first | (refine LB.new' ?_; simp; done) | refine LB.alloc ?_ _))
            have za5 : w1.heap.size + 1 ≤ w5.heap.size := by rw [hW5]; simp
            have B6 := Lib.hid hb5
            have z6 := B6.out.size
            have HB7 := Lib.hid (HB3.out.trans (B6.out.mono HB3.out.size))
            clear hb5 hW5
            have Hn_8 := Lib.hid (LV.step Hn_4.out B6.out)
            have hgb := Nat.lt_of_lt_of_le HO.out.1 B2.out.size
            have P1_3_9 := Lib.hid (B2.out.trans (B6.out.mono B2.out.size))
            have HOg := Lib.hid (HO.out.step (P1_3_9.out)); clear HO
            have hgl := HOg.out.1
            have HBE := Lib.hid HB7.out
            go_wp2
            have HZ1 := Lib.hid (show LV w5 w5.heap.size (.agg #[.bool n4, .slice Ad4 l4 c4]) ((num (T.take 0) : Nat) : Int) by rw [HZ0.out]; exact Hn_8.out)
            go_loopw [11] (fun iv wr => ∃ (i : Nat) (nn : Bool) (An : Option Addr) (ln cn : Nat), i ≤ n ∧ iv = .int .i64 i ∧ Hid (RBy wr g T) ∧ LB wr (w1.heap.size) (.bool nn) (.slice An ln cn) ∧ Hid (LV wr wr.heap.size (.agg #[.bool nn, .slice An ln cn]) (((num (T.take i) : Nat) : Int))) ∧ Hid (Below w.heap.size w wr)) (fun iv _ => n - (intOf iv).toNat)
            case atStart => exact ⟨0, _, _, _, _, Nat.zero_le _, rfl, HOg, Ln_5, HZ1, HBE⟩
            case round =>
              clear HZ1 HOg
              obtain ⟨i, nn, An, ln, cn, hi2, rfl, HOg, Ln, HN1, HB1⟩ := hrel
              have hltn := Ln.lt
              by_cases hin : i < n
              · have hil : i < T.length := by omega
                obtain ⟨c, hc⟩ : ∃ c, c = T[i] := ⟨_, rfl⟩; have hcd : IsDig c := by rw [hc]; exact HTD.out _ (List.getElem_mem hil)
                have HCC := Lib.hid (show wr.cell? ⟨g, i, none⟩ = some (.int .u8 (c.toNat : Int)) by rw [hc]; exact HOg.out.2 i hil)
                have HNX := Lib.hid (show ((num (T.take i) : Nat) : Int) * 10 + ((c.toNat - 48 : Nat) : Int) = ((num (T.take (i + 1)) : Nat) : Int) by rw [List.take_succ_eq_append_getElem hil, num_snoc, ← hc]; omega)
                obtain ⟨q, hq⟩ : ∃ q : Nat, q = c.toNat - 48 := ⟨_, rfl⟩; have hcq : (c.toNat : Int) - 48 = (q : Int) := by have := hcd.1; omega
                have hq9 : q ≤ 9 := by have := hcd.2; omega
                rw [← hq] at HNX
                have hc1 : (48 : Int) ≤ (c.toNat : Int) := by have := hcd.1; omega
                have hc2 : (c.toNat : Int) ≤ 57 := by have := hcd.2; omega
                clear hq hcd hc
                have HTL := Lib.hid (show (dig ((num (T.take i) : Nat) : Int).natAbs).length ≤ 1100 from num_len htl (fun x hx => HTD.out x (List.mem_of_mem_take hx)) (by rw [List.length_take]; omega))
                have hini : (i : Int) < (n : Int) := by omega
                go_upto_region 23 with (fail)
                refine Flow.run [⟨0, 72, fun fv fw => fv = .agg #[.bool nn, .slice An ln cn]⟩, ⟨1, 73, fun fv fw => LV fw fw.heap.size fv 10⟩, ⟨2, 74, fun fv fw => LV fw fw.heap.size fv (((num (T.take i) : Nat) : Int) * 10)⟩, ⟨3, 75, fun fv fw => fv = .slice (some ⟨g, 0, none⟩) n cp⟩, ⟨4, 76, fun fv fw => fv = .int .i64 (i : Int)⟩, ⟨5, 77, fun fv fw => fv = .pointer (some ⟨g, i, none⟩)⟩, ⟨6, 78, fun fv fw => fv = .int .u8 (c.toNat : Int)⟩, ⟨7, 79, fun fv fw => fv = .int .u8 (q : Int)⟩, ⟨8, 80, fun fv fw => fv = .int .i64 (q : Int)⟩, ⟨9, 81, fun fv fw => LV fw fw.heap.size fv (q : Int)⟩, ⟨10, 82, fun fv fw => LV fw fw.heap.size fv ((num (T.take (i + 1)) : Nat) : Int)⟩] [] [] 1 (by kernel_rfl) (by kernel_rfl) (by kernel_rfl) (fun _ _ _ _ _ h => h) ?_ ?_ ?_ ?_
                · refine (all_cons (fun v w1 w2 h hb => h) (all_cons (fun v w1 w2 h hb => h.step hb) (all_cons (fun v w1 w2 h hb => h.step hb) (all_cons (fun v w1 w2 h hb => h) (all_cons (fun v w1 w2 h hb => h) (all_cons (fun v w1 w2 h hb => h) (all_cons (fun v w1 w2 h hb => h) (all_cons (fun v w1 w2 h hb => h) (all_cons (fun v w1 w2 h hb => h) (all_cons (fun v w1 w2 h hb => h.step hb) (all_cons (fun v w1 w2 h hb => h.step hb) all_nil)))))))))))
                · refine (all_cons ?_ (all_cons ?_ (all_cons ?_ (all_cons ?_ (all_cons ?_ (all_cons ?_ (all_cons ?_ (all_cons ?_ (all_cons ?_ (all_cons ?_ (all_cons ?_ all_nil)))))))))))
                  · intro xs wk10 hBk hdep
                    have HBk10 := Lib.hid hBk; have zk10 := hBk.size; clear hBk
                    clear hdep
                    refine wpOp_step (o := _) rfl (fun K hK => ?_)
                    simp only [fpairs, List.cons_append, List.nil_append, List.map_cons, List.map_nil, putAll, Act.put, List.setIfInBounds_toArray, List.set_cons_zero, List.set_cons_succ]
                    have Ln_11 := LB.step Ln HBk10.out
                    have q12_0 := Ln_11.cell0
                    have q12_1 := Ln_11.cell1
                    have q12_2 := Ln_11.frozen 0
                    have q12_3 := Ln_11.frozen 1
                    have q12_lt := Ln_11.lt
                    go_simp
                    refine hK _ _ ⟨.agg #[.bool nn, .slice An ln cn], by kernel_rfl, Below.refl _ _, rfl, fun h => absurd (show false = true from h) Bool.false_ne_true⟩
                  · intro xs wk13 hBk hdep
                    have HBk13 := Lib.hid hBk; have zk13 := hBk.size; clear hBk
                    clear hdep
                    refine wpOp_step (o := _) rfl (fun K hK => ?_)
                    simp only [fpairs, List.cons_append, List.nil_append, List.map_cons, List.map_nil, putAll, Act.put, List.setIfInBounds_toArray, List.set_cons_zero, List.set_cons_succ]
                    go_simp
                    (with_reducible refine (ROf_any _ 10 (by decide) (by decide)).mono ?_)
                    rintro e wc14 ⟨hb14, v14, rfl, hv14⟩
                    refine hK _ _ ⟨v14, by kernel_rfl, hb14, hv14, fun h => absurd (show false = true from h) Bool.false_ne_true⟩
                  · intro xs wk15 hBk hdep
                    have HBk15 := Lib.hid hBk; have zk15 := hBk.size; clear hBk
                    have f0 : (xs 0) = .agg #[.bool nn, .slice An ln cn] := hdep _ (List.mem_of_getElem? (i := 0) rfl) (by kernel_rfl)
                    have f1 : LV wk15 wk15.heap.size (xs 1) 10 := hdep _ (List.mem_of_getElem? (i := 1) rfl) (by kernel_rfl)
                    clear hdep
                    refine wpOp_step (o := _) rfl (fun K hK => ?_)
                    simp only [fpairs, List.cons_append, List.nil_append, List.map_cons, List.map_nil, putAll, Act.put, List.setIfInBounds_toArray, List.set_cons_zero, List.set_cons_succ]
                    go_simp
                    have Hn_16 := Lib.hid (LV.step HN1.out HBk15.out)
                    (with_reducible refine (RProd_any _ _ _ ((num (T.take i) : Nat) : Int) 10 (Hn_16.out) f1 (Nat.le_trans HTL.out (by omega)) ten_len).mono ?_)
                    rintro e wc17 ⟨hb17, v17, rfl, hv17⟩
                    refine hK _ _ ⟨v17, by simp only [fpairs, List.cons_append, List.nil_append, List.map_cons, List.map_nil, putAll, Act.put, List.setIfInBounds_toArray, List.set_cons_zero, List.set_cons_succ, f0], hb17, hv17, fun h => absurd (show false = true from h) Bool.false_ne_true⟩
                  · intro xs wk18 hBk hdep
                    have HBk18 := Lib.hid hBk; have zk18 := hBk.size; clear hBk
                    clear hdep
                    refine wpOp_step (o := _) rfl (fun K hK => ?_)
                    simp only [fpairs, List.cons_append, List.nil_append, List.map_cons, List.map_nil, putAll, Act.put, List.setIfInBounds_toArray, List.set_cons_zero, List.set_cons_succ]
                    go_simp
                    refine hK _ _ ⟨.slice (some ⟨g, 0, none⟩) n cp, by kernel_rfl, Below.refl _ _, rfl, fun h => absurd (show false = true from h) Bool.false_ne_true⟩
                  · intro xs wk19 hBk hdep
                    have HBk19 := Lib.hid hBk; have zk19 := hBk.size; clear hBk
                    clear hdep
                    refine wpOp_step (o := _) rfl (fun K hK => ?_)
                    simp only [fpairs, List.cons_append, List.nil_append, List.map_cons, List.map_nil, putAll, Act.put, List.setIfInBounds_toArray, List.set_cons_zero, List.set_cons_succ]
                    go_simp
                    refine hK _ _ ⟨.int .i64 (i : Int), by kernel_rfl, Below.refl _ _, rfl, fun h => absurd (show false = true from h) Bool.false_ne_true⟩
                  · intro xs wk20 hBk hdep
                    have HBk20 := Lib.hid hBk; have zk20 := hBk.size; clear hBk
                    have f3 : (xs 3) = .slice (some ⟨g, 0, none⟩) n cp := hdep _ (List.mem_of_getElem? (i := 3) rfl) (by kernel_rfl)
                    have f4 : (xs 4) = .int .i64 (i : Int) := hdep _ (List.mem_of_getElem? (i := 4) rfl) (by kernel_rfl)
                    clear hdep
                    refine wpOp_step (o := _) rfl (fun K hK => ?_)
                    simp only [fpairs, List.cons_append, List.nil_append, List.map_cons, List.map_nil, putAll, Act.put, List.setIfInBounds_toArray, List.set_cons_zero, List.set_cons_succ]
                    go_simp
                    refine hK _ _ ⟨.pointer (some ⟨g, i, none⟩), by simp only [fpairs, List.cons_append, List.nil_append, List.map_cons, List.map_nil, putAll, Act.put, List.setIfInBounds_toArray, List.set_cons_zero, List.set_cons_succ, f3, f4], Below.refl _ _, rfl, fun h => absurd (show false = true from h) Bool.false_ne_true⟩
                  · intro xs wk21 hBk hdep
                    have HBk21 := Lib.hid hBk; have zk21 := hBk.size; clear hBk
                    have f5 : (xs 5) = .pointer (some ⟨g, i, none⟩) := hdep _ (List.mem_of_getElem? (i := 5) rfl) (by kernel_rfl)
                    clear hdep
                    refine wpOp_step (o := _) rfl (fun K hK => ?_)
                    simp only [fpairs, List.cons_append, List.nil_append, List.map_cons, List.map_nil, putAll, Act.put, List.setIfInBounds_toArray, List.set_cons_zero, List.set_cons_succ]
                    have hcell := (HBk21.out.cell (cell_lt HCC.out)).trans HCC.out
                    go_simp
                    refine hK _ _ ⟨.int .u8 (c.toNat : Int), by simp only [fpairs, List.cons_append, List.nil_append, List.map_cons, List.map_nil, putAll, Act.put, List.setIfInBounds_toArray, List.set_cons_zero, List.set_cons_succ, f5], Below.refl _ _, rfl, fun h => absurd (show false = true from h) Bool.false_ne_true⟩
                  · intro xs wk22 hBk hdep
                    have HBk22 := Lib.hid hBk; have zk22 := hBk.size; clear hBk
                    have f6 : (xs 6) = .int .u8 (c.toNat : Int) := hdep _ (List.mem_of_getElem? (i := 6) rfl) (by kernel_rfl)
                    clear hdep
                    refine wpOp_step (o := _) rfl (fun K hK => ?_)
                    simp only [fpairs, List.cons_append, List.nil_append, List.map_cons, List.map_nil, putAll, Act.put, List.setIfInBounds_toArray, List.set_cons_zero, List.set_cons_succ]
                    have hw8 : IntKind.u8.wrap (q : Int) = (q : Int) := IntWalk.u8_in _ (by omega)
                    go_simp
                    refine hK _ _ ⟨.int .u8 (q : Int), by simp only [fpairs, List.cons_append, List.nil_append, List.map_cons, List.map_nil, putAll, Act.put, List.setIfInBounds_toArray, List.set_cons_zero, List.set_cons_succ, f6], Below.refl _ _, rfl, fun h => absurd (show false = true from h) Bool.false_ne_true⟩
                  · intro xs wk23 hBk hdep
                    have HBk23 := Lib.hid hBk; have zk23 := hBk.size; clear hBk
                    have f7 : (xs 7) = .int .u8 (q : Int) := hdep _ (List.mem_of_getElem? (i := 7) rfl) (by kernel_rfl)
                    clear hdep
                    refine wpOp_step (o := _) rfl (fun K hK => ?_)
                    simp only [fpairs, List.cons_append, List.nil_append, List.map_cons, List.map_nil, putAll, Act.put, List.setIfInBounds_toArray, List.set_cons_zero, List.set_cons_succ]
                    have hw8 : IntKind.i64.wrap (q : Int) = (q : Int) := IntWalk.i64_in _ (by omega)
                    go_simp
                    refine hK _ _ ⟨.int .i64 (q : Int), by simp only [fpairs, List.cons_append, List.nil_append, List.map_cons, List.map_nil, putAll, Act.put, List.setIfInBounds_toArray, List.set_cons_zero, List.set_cons_succ, f7], Below.refl _ _, rfl, fun h => absurd (show false = true from h) Bool.false_ne_true⟩
                  · intro xs wk24 hBk hdep
                    have HBk24 := Lib.hid hBk; have zk24 := hBk.size; clear hBk
                    have f8 : (xs 8) = .int .i64 (q : Int) := hdep _ (List.mem_of_getElem? (i := 8) rfl) (by kernel_rfl)
                    clear hdep
                    refine wpOp_step (o := _) rfl (fun K hK => ?_)
                    simp only [fpairs, List.cons_append, List.nil_append, List.map_cons, List.map_nil, putAll, Act.put, List.setIfInBounds_toArray, List.set_cons_zero, List.set_cons_succ]
                    go_simp
                    (with_reducible refine (ROf_any _ (q : Int) (by omega) (by omega)).mono ?_)
                    rintro e wc25 ⟨hb25, v25, rfl, hv25⟩
                    refine hK _ _ ⟨v25, by simp only [fpairs, List.cons_append, List.nil_append, List.map_cons, List.map_nil, putAll, Act.put, List.setIfInBounds_toArray, List.set_cons_zero, List.set_cons_succ, f8], hb25, hv25, fun h => absurd (show false = true from h) Bool.false_ne_true⟩
                  · intro xs wk26 hBk hdep
                    have HBk26 := Lib.hid hBk; have zk26 := hBk.size; clear hBk
                    have f2 : LV wk26 wk26.heap.size (xs 2) (((num (T.take i) : Nat) : Int) * 10) := hdep _ (List.mem_of_getElem? (i := 2) rfl) (by kernel_rfl)
                    have f9 : LV wk26 wk26.heap.size (xs 9) (q : Int) := hdep _ (List.mem_of_getElem? (i := 9) rfl) (by kernel_rfl)
                    clear hdep
                    refine wpOp_step (o := _) rfl (fun K hK => ?_)
                    simp only [fpairs, List.cons_append, List.nil_append, List.map_cons, List.map_nil, putAll, Act.put, List.setIfInBounds_toArray, List.set_cons_zero, List.set_cons_succ]
                    go_simp
                    (with_reducible refine (RSum_any _ _ _ (((num (T.take i) : Nat) : Int) * 10) (q : Int) f2 f9 (Nat.le_trans (ten_more HTL.out) (by omega)) (Nat.le_trans (mid_len' (by omega)) (by omega))).mono ?_)
                    rintro e wc27 ⟨hb27, v27, rfl, hv27⟩
                    rw [HNX.out] at hv27
                    refine hK _ _ ⟨v27, by kernel_rfl, hb27, hv27, fun h => absurd (show false = true from h) Bool.false_ne_true⟩
                · exact all_nil
                · intro xs wf28 hbf hf hn hd
                  have f0 : (xs 0) = .agg #[.bool nn, .slice An ln cn] := hf _ (List.mem_of_getElem? (i := 0) rfl)
                  have f1 : LV wf28 wf28.heap.size (xs 1) 10 := hf _ (List.mem_of_getElem? (i := 1) rfl)
                  have f2 : LV wf28 wf28.heap.size (xs 2) (((num (T.take i) : Nat) : Int) * 10) := hf _ (List.mem_of_getElem? (i := 2) rfl)
                  have f3 : (xs 3) = .slice (some ⟨g, 0, none⟩) n cp := hf _ (List.mem_of_getElem? (i := 3) rfl)
                  have f4 : (xs 4) = .int .i64 (i : Int) := hf _ (List.mem_of_getElem? (i := 4) rfl)
                  have f5 : (xs 5) = .pointer (some ⟨g, i, none⟩) := hf _ (List.mem_of_getElem? (i := 5) rfl)
                  have f6 : (xs 6) = .int .u8 (c.toNat : Int) := hf _ (List.mem_of_getElem? (i := 6) rfl)
                  have f7 : (xs 7) = .int .u8 (q : Int) := hf _ (List.mem_of_getElem? (i := 7) rfl)
                  have f8 : (xs 8) = .int .i64 (q : Int) := hf _ (List.mem_of_getElem? (i := 8) rfl)
                  have f9 : LV wf28 wf28.heap.size (xs 9) (q : Int) := hf _ (List.mem_of_getElem? (i := 9) rfl)
                  have f10 : LV wf28 wf28.heap.size (xs 10) ((num (T.take (i + 1)) : Nat) : Int) := hf _ (List.mem_of_getElem? (i := 10) rfl)
                  clear hf hn hd
                  simp only [fpairs, List.cons_append, List.nil_append, List.map_cons, List.map_nil, putAll, Act.put, List.setIfInBounds_toArray, List.set_cons_zero, List.set_cons_succ]
                  have B29 := Lib.hid hbf
                  have z29 := B29.out.size
                  have HB30 := Lib.hid (HB1.out.trans (B29.out.mono HB1.out.size))
                  clear hbf
                  generalize xs 0 = x0 at *
                  generalize xs 1 = x1 at *
                  generalize xs 2 = x2 at *
                  generalize xs 3 = x3 at *
                  generalize xs 4 = x4 at *
                  generalize xs 5 = x5 at *
                  generalize xs 6 = x6 at *
                  generalize xs 7 = x7 at *
                  generalize xs 8 = x8 at *
                  generalize xs 9 = x9 at *
                  generalize xs 10 = x10 at *
                  obtain rfl := f0
                  clear f1
                  clear f2
                  obtain rfl := f3
                  obtain rfl := f4
                  obtain rfl := f5
                  obtain rfl := f6
                  obtain rfl := f7
                  obtain rfl := f8
                  clear f9
                  obtain ⟨n31, Ad31, l31, c31, rfl, hv31⟩ := f10.opened
                  have Hm_31 := Lib.hid hv31
                  clear f10 hv31
                  have Ln_32 := LB.step Ln B29.out
                  have q33_0 := Ln_32.cell0
                  have q33_1 := Ln_32.cell1
                  have q33_2 := Ln_32.frozen 0
                  have q33_3 := Ln_32.frozen 1
                  have q33_lt := Ln_32.lt
                  refine Early.next (i := 11) (by kernel_rfl) rfl (fun K hK => ?_)
                  go_simp
                  refine hK _ _ (fun _ => trivial) ?_
                  clear hK K
                  (try simp only [Act.put, List.setIfInBounds_toArray, List.set_cons_zero, List.set_cons_succ])
                  clear q33_0 q33_1 q33_2 q33_3 q33_lt
                  refine Early.done (by kernel_rfl) ?_ _
                  (try simp only [Exit.then])
                  have hgn : g ≠ w1.heap.size := by omega
                  obtain ⟨w34, hW34⟩ : ∃ w34 : World, w34 = (wf28.setCell ⟨w1.heap.size, 0, none⟩ (.bool n31)).setCell ⟨w1.heap.size, 1, none⟩ (.slice Ad31 l31 c31) := ⟨_, rfl⟩
                  rw [← hW34]
                  have S34 := Lib.hid (show Soft wf28 w34 by rw [hW34]; exact soft_put Ln_32)
                  have Ln_34 : LB w34 (w1.heap.size) (.bool n31) (.slice Ad31 l31 c31) := by rw [hW34]; exact (Ln_32.set0 _).set1 _
                  have HBP34 := Lib.hid (show Below w.heap.size w w34 by rw [hW34]; exact below_set1 (below_set1 HB30.out (by omega) _ _) (by omega) _ _)
                  have HOn := Lib.hid (show RBy w34 g T by rw [hW34]; exact ((HOg.out.step B29.out).far (p := ⟨w1.heap.size, 0, none⟩) hgn _).far (p := ⟨w1.heap.size, 1, none⟩) hgn _)
                  have zw34 : w34.heap.size = wf28.heap.size := by rw [hW34]; simp [World.setCell]
                  clear hW34
                  go_wp2
                  go_roundw
                  have Hm_35 := Lib.hid (LV.soft Hm_31.out (S34.out))
                  case rel => exact ⟨i + 1, _, _, _, _, by omega, by go_num, HOn, Ln_34, Lib.hid Hm_35.out, Lib.hid HBP34.out⟩
                  case measure => simp [intOf]; omega
              · obtain rfl : i = n := by omega
                rw [show T.take i = T from List.take_of_length_le hnl2, HNUM.out] at HN1
                obtain ⟨F, hF⟩ : ∃ F, F = num (fil S) := ⟨_, rfl⟩; rw [← hF] at HN1; have HFF := Lib.hid hF; have HFL := Lib.hid (show (dig (F : Int).natAbs).length ≤ 1100 by rw [hF, ← HNUM.out]; exact num_len htl HTD.out (Nat.le_refl _)); clear hF
                have HSG := Lib.hid (show numS S = sgn (S.head? == some 45) F by rw [HFF.out]; rfl)
                obtain ⟨wq, hwq⟩ : ∃ wq : World, wq = wr := ⟨_, rfl⟩; subst hwq
                obtain ⟨hd45, hhd⟩ : ∃ b : Bool, b = (S.head? == some 45) := ⟨_, rfl⟩; rw [← hhd] at HSG; have HHD := Lib.hid hhd; clear hhd
                go_upto_region 24 with (fail)
                go_cut [90] (fun s90 wx => s90 = .bool hd45 ∧ wx = wq)
                case first =>
                  by_cases hs0 : 0 < s.size
                  · have hsi : (0 : Int) < (s.size : Int) := by omega
                    have hfb : S.head? = some s[0] := by rw [← HSE.out, first_byte s hs0]; rfl
                    by_cases h45 : s[0] = 45
                    · have hcb : ((s[0].toNat : Int) == 45) = true := by rw [h45]; rfl
                      have HB45 := Lib.hid (show hd45 = true by rw [HHD.out, hfb, h45]; rfl); clear hfb h45
                      go_wp2
                      go_meet
                      exact ⟨by rw [HB45.out], rfl⟩
                    · have hcb : ((s[0].toNat : Int) == 45) = false := by rw [beq_eq_false_iff_ne]; intro e; exact h45 (UInt8.toNat.inj (by show s[0].toNat = 45; omega))
                      have HB45 := Lib.hid (show hd45 = false by rw [HHD.out, hfb]; simpa using h45); clear hfb h45
                      go_wp2
                      go_meet
                      exact ⟨by rw [HB45.out], rfl⟩
                  · have hsi : ¬ (0 : Int) < (s.size : Int) := by omega
                    have HB45 := Lib.hid (show hd45 = false by rw [HHD.out, show S = [] from List.eq_nil_of_length_eq_zero (by rw [HSL.out]; omega)]; rfl)
                    go_wp2
                    go_meet
                    exact ⟨by rw [HB45.out], rfl⟩
                case rest =>
                  obtain ⟨rfl, rfl⟩ := hcut
                  go_upto_if 90 with (fail)
                  go_cut [7] (fun s7 wx => s7 = .int .i64 (p : Int) ∧ ∃ (nn : Bool) (An : Option Addr) (ln cn : Nat), LB wx (w1.heap.size) (.bool nn) (.slice An ln cn) ∧ Hid (LV wx wx.heap.size (.agg #[.bool nn, .slice An ln cn]) (numS S)) ∧ Hid (Below w.heap.size w wx))
                  case first =>
                    cases hd45
                    · have HSS := Lib.hid (show numS S = (F : Int) by rw [HSG.out]; rfl)
                      go_simp
                      go_wp2
                      go_meet
                      exact ⟨rfl, _, _, _, _, Ln, Lib.hid (by rw [HSS.out]; exact HN1.out), HB1⟩
                    · have HSS := Lib.hid (show numS S = -(F : Int) by rw [HSG.out]; rfl)
                      go_simp
                      have q37_0 := Ln.cell0
                      have q37_1 := Ln.cell1
                      have q37_2 := Ln.frozen 0
                      have q37_3 := Ln.frozen 1
                      have q37_lt := Ln.lt
                      go_wp2_with fail
                      refine (RMinus_any _ _ (F : Int) HN1.out (Nat.le_trans HFL.out (by omega))).mono ?_
                      rintro e w36 ⟨hb36, v3, rfl, hv3⟩
                      have B38 := Lib.hid hb36
                      have z38 := B38.out.size
                      have HB39 := Lib.hid (HB1.out.trans (B38.out.mono HB1.out.size))
                      clear hb36
                      clear q37_0 q37_1 q37_2 q37_3 q37_lt
                      rw [← HSS.out] at hv3
                      obtain ⟨n40, Ad40, l40, c40, rfl, hv40⟩ := hv3.opened
                      have Hm_40 := Lib.hid hv40
                      clear hv3 hv40
                      have Ln_41 := LB.step Ln B38.out
                      have q42_0 := Ln_41.cell0
                      have q42_1 := Ln_41.cell1
                      have q42_2 := Ln_41.frozen 0
                      have q42_3 := Ln_41.frozen 1
                      have q42_lt := Ln_41.lt
                      go_wp2
                      go_meet
                      refine ⟨rfl, _, _, _, _, (Ln_41.set0 _).set1 _, Lib.hid ?_, Lib.hid (below_set1 (below_set1 HB39.out (by omega) _ _) (by omega) _ _)⟩
                      exact LV.setLB Hm_40.out Ln_41 _ _ rfl rfl
                  case rest =>
                    clear HHD HN1 HB1 Ln HOg hltn HNUM HFL HSG HFF HT HTD htl hnl1 hnl2 hncp HN HCP
                    obtain ⟨rfl, nn, An, ln, cn, Ln, HN1, HB1⟩ := hcut
                    have hltn := Ln.lt
                    obtain ⟨N, hN⟩ : ∃ N : Int, N = numS S := ⟨_, rfl⟩; rw [← hN] at HN1 HQ; have HNN := Lib.hid (show (dig N.natAbs).length ≤ 112 by rw [hN]; exact pow_dig (m := s.size) (numS_lt S (Nat.le_of_eq HSL.out)) (by omega)); clear hN
                    have q44_0 := Ln.cell0
                    have q44_1 := Ln.cell1
                    have q44_2 := Ln.frozen 0
                    have q44_3 := Ln.frozen 1
                    have q44_lt := Ln.lt
                    go_wp2_with fail
                    refine (RWritten_any _ _ N HN1.out (Nat.le_trans HNN.out (by omega)) p (by have h1 := HPD.out; have h2 := HD.out; omega)).mono ?_
                    rintro e w43 ⟨hb43, t, rfl, ht⟩
                    have B45 := Lib.hid hb43
                    have z45 := B45.out.size
                    have HB46 := Lib.hid (HB1.out.trans (B45.out.mono HB1.out.size))
                    clear hb43
                    clear q44_0 q44_1 q44_2 q44_3 q44_lt
                    by_cases hts : t.data.toList = S
                    · have htb : (t.toList == s.toList) = true := by rw [beq_str, hts, HSE.out]; simp
                      have HR2 := Lib.hid (show r = intZ (N * (10 ^ (D - p) : Nat)) by rw [HQ.out, if_pos (by rw [← ht]; exact hts)]); clear ht hts HQ
                      go_upto_region 28 with (fail)
                      clear htb
                      have Hn_47 := Lib.hid (LV.step HN1.out B45.out)
                      have HN0 := Lib.hid (show LV w43 w43.heap.size (.agg #[.bool nn, .slice An ln cn]) (N * ((10 ^ 0 : Nat) : Int)) by rw [Nat.pow_zero, Int.natCast_one, Int.mul_one]; exact Hn_47.out)
                      have Ln_48 := LB.step Ln B45.out
                      go_wp2
                      go_loopw [12] (fun iv wr => ∃ (k m : Nat) (nn : Bool) (An : Option Addr) (ln cn : Nat), p + k = m ∧ m ≤ D ∧ iv = .int .i64 m ∧ LB wr (w1.heap.size) (.bool nn) (.slice An ln cn) ∧ Hid (LV wr wr.heap.size (.agg #[.bool nn, .slice An ln cn]) (N * ((10 ^ k : Nat) : Int))) ∧ Hid (Below w.heap.size w wr)) (fun iv _ => D - (intOf iv).toNat)
                      case atStart => exact ⟨0, p, _, _, _, _, rfl, HPD.out, rfl, Ln_48, HN0, Lib.hid HB46.out⟩
                      case round =>
                        clear HN0 HN1 Ln HB1 hltn
                        obtain ⟨k, m, nn, An, ln, cn, hkm, hmD, rfl, Ln, HN1, HB1⟩ := hrel
                        have hltn := Ln.lt
                        have HKM := Lib.hid hkm; clear hkm
                        by_cases hmd : m < D
                        · have hmi : (m : Int) < (D : Int) := by omega
                          have HKL := Lib.hid (show (dig (N * ((10 ^ k : Nat) : Int)).natAbs).length ≤ 2000 from thou_mul HNN.out (by have h1 := HKM.out; omega))
                          go_upto_region 31 with (fail)
                          refine Flow.run [⟨0, 104, fun fv fw => fv = .agg #[.bool nn, .slice An ln cn]⟩, ⟨1, 105, fun fv fw => LV fw fw.heap.size fv 10⟩, ⟨2, 106, fun fv fw => LV fw fw.heap.size fv (N * ((10 ^ (k + 1) : Nat) : Int))⟩] [] [] 1 (by kernel_rfl) (by kernel_rfl) (by kernel_rfl) (fun _ _ _ _ _ h => h) ?_ ?_ ?_ ?_
                          · refine (all_cons (fun v w1 w2 h hb => h) (all_cons (fun v w1 w2 h hb => h.step hb) (all_cons (fun v w1 w2 h hb => h.step hb) all_nil)))
                          · refine (all_cons ?_ (all_cons ?_ (all_cons ?_ all_nil)))
                            · intro xs wk49 hBk hdep
                              have HBk49 := Lib.hid hBk; have zk49 := hBk.size; clear hBk
                              clear hdep
                              refine wpOp_step (o := _) rfl (fun K hK => ?_)
                              simp only [fpairs, List.cons_append, List.nil_append, List.map_cons, List.map_nil, putAll, Act.put, List.setIfInBounds_toArray, List.set_cons_zero, List.set_cons_succ]
                              have Ln_50 := LB.step Ln HBk49.out
                              have q51_0 := Ln_50.cell0
                              have q51_1 := Ln_50.cell1
                              have q51_2 := Ln_50.frozen 0
                              have q51_3 := Ln_50.frozen 1
                              have q51_lt := Ln_50.lt
                              go_simp
                              refine hK _ _ ⟨.agg #[.bool nn, .slice An ln cn], by kernel_rfl, Below.refl _ _, rfl, fun h => absurd (show false = true from h) Bool.false_ne_true⟩
                            · intro xs wk52 hBk hdep
                              have HBk52 := Lib.hid hBk; have zk52 := hBk.size; clear hBk
                              clear hdep
                              refine wpOp_step (o := _) rfl (fun K hK => ?_)
                              simp only [fpairs, List.cons_append, List.nil_append, List.map_cons, List.map_nil, putAll, Act.put, List.setIfInBounds_toArray, List.set_cons_zero, List.set_cons_succ]
                              go_simp
                              (with_reducible refine (ROf_any _ 10 (by decide) (by decide)).mono ?_)
                              rintro e wc53 ⟨hb53, v53, rfl, hv53⟩
                              refine hK _ _ ⟨v53, by kernel_rfl, hb53, hv53, fun h => absurd (show false = true from h) Bool.false_ne_true⟩
                            · intro xs wk54 hBk hdep
                              have HBk54 := Lib.hid hBk; have zk54 := hBk.size; clear hBk
                              have f0 : (xs 0) = .agg #[.bool nn, .slice An ln cn] := hdep _ (List.mem_of_getElem? (i := 0) rfl) (by kernel_rfl)
                              have f1 : LV wk54 wk54.heap.size (xs 1) 10 := hdep _ (List.mem_of_getElem? (i := 1) rfl) (by kernel_rfl)
                              clear hdep
                              refine wpOp_step (o := _) rfl (fun K hK => ?_)
                              simp only [fpairs, List.cons_append, List.nil_append, List.map_cons, List.map_nil, putAll, Act.put, List.setIfInBounds_toArray, List.set_cons_zero, List.set_cons_succ]
                              go_simp
                              have Hn_55 := Lib.hid (LV.step HN1.out HBk54.out)
                              (with_reducible refine (RProd_any _ _ _ (N * ((10 ^ k : Nat) : Int)) 10 (Hn_55.out) f1 (Nat.le_trans HKL.out (by omega)) ten_len).mono ?_)
                              rintro e wc56 ⟨hb56, v56, rfl, hv56⟩
                              rw [mul_next] at hv56
                              refine hK _ _ ⟨v56, by simp only [fpairs, List.cons_append, List.nil_append, List.map_cons, List.map_nil, putAll, Act.put, List.setIfInBounds_toArray, List.set_cons_zero, List.set_cons_succ, f0], hb56, hv56, fun h => absurd (show false = true from h) Bool.false_ne_true⟩
                          · exact all_nil
                          · intro xs wf57 hbf hf hn hd
                            have f0 : (xs 0) = .agg #[.bool nn, .slice An ln cn] := hf _ (List.mem_of_getElem? (i := 0) rfl)
                            have f1 : LV wf57 wf57.heap.size (xs 1) 10 := hf _ (List.mem_of_getElem? (i := 1) rfl)
                            have f2 : LV wf57 wf57.heap.size (xs 2) (N * ((10 ^ (k + 1) : Nat) : Int)) := hf _ (List.mem_of_getElem? (i := 2) rfl)
                            clear hf hn hd
                            simp only [fpairs, List.cons_append, List.nil_append, List.map_cons, List.map_nil, putAll, Act.put, List.setIfInBounds_toArray, List.set_cons_zero, List.set_cons_succ]
                            have B58 := Lib.hid hbf
                            have z58 := B58.out.size
                            have HB59 := Lib.hid (HB1.out.trans (B58.out.mono HB1.out.size))
                            clear hbf
                            generalize xs 0 = x0 at *
                            generalize xs 1 = x1 at *
                            generalize xs 2 = x2 at *
                            obtain rfl := f0
                            clear f1
                            obtain ⟨n60, Ad60, l60, c60, rfl, hv60⟩ := f2.opened
                            have Hm_60 := Lib.hid hv60
                            clear f2 hv60
                            have Ln_61 := LB.step Ln B58.out
                            have q62_0 := Ln_61.cell0
                            have q62_1 := Ln_61.cell1
                            have q62_2 := Ln_61.frozen 0
                            have q62_3 := Ln_61.frozen 1
                            have q62_lt := Ln_61.lt
                            refine Early.next (i := 3) (by kernel_rfl) rfl (fun K hK => ?_)
                            go_simp
                            refine hK _ _ (fun _ => trivial) ?_
                            clear hK K
                            (try simp only [Act.put, List.setIfInBounds_toArray, List.set_cons_zero, List.set_cons_succ])
                            clear q62_0 q62_1 q62_2 q62_3 q62_lt
                            refine Early.done (by kernel_rfl) ?_ _
                            (try simp only [Exit.then])
                            obtain ⟨w63, hW63⟩ : ∃ w63 : World, w63 = (wf57.setCell ⟨w1.heap.size, 0, none⟩ (.bool n60)).setCell ⟨w1.heap.size, 1, none⟩ (.slice Ad60 l60 c60) := ⟨_, rfl⟩
                            rw [← hW63]
                            have S63 := Lib.hid (show Soft wf57 w63 by rw [hW63]; exact soft_put Ln_61)
                            have Ln_63 : LB w63 (w1.heap.size) (.bool n60) (.slice Ad60 l60 c60) := by rw [hW63]; exact (Ln_61.set0 _).set1 _
                            have HBP63 := Lib.hid (show Below w.heap.size w w63 by rw [hW63]; exact below_set1 (below_set1 HB59.out (by omega) _ _) (by omega) _ _)
                            have zw63 : w63.heap.size = wf57.heap.size := by rw [hW63]; simp [World.setCell]
                            clear hW63
                            go_wp2
                            go_roundw
                            have Hm_64 := Lib.hid (LV.soft Hm_60.out (S63.out))
                            case rel => exact ⟨k + 1, m + 1, _, _, _, _, by have := HKM.out; omega, by omega, by go_num, Ln_63, Lib.hid Hm_64.out, Lib.hid HBP63.out⟩
                            case measure => simp [intOf]; omega
                        · obtain rfl : m = D := by omega
                          have hkd : m - p = k := by have := HKM.out; omega
                          rw [hkd] at HR2; clear hkd hmd
                          have hll := Lib.hid (LV.is HN1.out).2.1
                          have HBG := Lib.hid (show 4 < ln → intZ (N * ((10 ^ k : Nat) : Int)) = (0, 6) from fun h => intZ_big (by have := hll.out; omega))
                          have HSM := Lib.hid (show ln ≤ 4 → (dig (N * ((10 ^ k : Nat) : Int)).natAbs).length ≤ 600 from fun h => by have := hll.out; omega); clear hll
                          obtain ⟨M, hM⟩ : ∃ M : Int, M = N * ((10 ^ k : Nat) : Int) := ⟨_, rfl⟩; rw [← hM] at HN1 HR2 HBG HSM; clear hM
                          by_cases hbig : 4 < ln
                          · have hbi : (4 : Int) < (ln : Int) := by omega
                            have HZ := Lib.hid (show r = (0, 6) by rw [HR2.out]; exact HBG.out hbig); clear hbig
                            have q65_0 := Ln.cell0
                            have q65_1 := Ln.cell1
                            have q65_2 := Ln.frozen 0
                            have q65_3 := Ln.frozen 1
                            have q65_lt := Ln.lt
                            go_wp2
                            go_ret2
                            rw [HZ.out]; exact ⟨HB1.out, rfl⟩
                          · have hbi : (ln : Int) ≤ 4 := by omega
                            have HLM := Lib.hid (HSM.out (by omega)); clear hbig
                            have q67_0 := Ln.cell0
                            have q67_1 := Ln.cell1
                            have q67_2 := Ln.frozen 0
                            have q67_3 := Ln.frozen 1
                            have q67_lt := Ln.lt
                            go_wp2_with fail
                            refine (RInt_num _ _ M HN1.out HLM.out).mono ?_
                            rintro e w66 ⟨hb66, rfl⟩
                            have B68 := Lib.hid hb66
                            have z68 := B68.out.size
                            have HB69 := Lib.hid (HB1.out.trans (B68.out.mono HB1.out.size))
                            clear hb66
                            clear q67_0 q67_1 q67_2 q67_3 q67_lt
                            go_wp2
                            go_ret2
                            rw [HR2.out]; exact ⟨HB69.out, rfl⟩
                    · have htb : (t.toList == s.toList) = false := by rw [beq_str, HSE.out]; simpa using hts
                      have HR2 := Lib.hid (show r = (0, 5) by rw [HQ.out, if_neg (by rw [← ht]; exact hts)]); clear ht hts HQ
                      go_wp2
                      go_ret2
                      rw [HR2.out]; exact ⟨HB46.out, rfl⟩
  · have HZ := Lib.hid (show r = (0, 2) by rw [HR.out]; unfold parseD; rw [if_neg hd])
    by_cases h1 : d < 0
    · clear hd
      go_enter Tryz.func15, Tryz.ntmps15
      go_wp2
      go_ret2
      rw [HZ.out]; exact ⟨Below.refl _ _, rfl⟩
    · have h2 : 18 < d := by omega
      clear hd
      go_enter Tryz.func15, Tryz.ntmps15
      go_wp2
      go_ret2
      rw [HZ.out]; exact ⟨Below.refl _ _, rfl⟩
end Go.Proofs.YtfklkphoplpebaaGreatDoor
