/- Size.Common, Size.Root: the walks. -/
import Derived.Test.YtnbanlmkoljghaaGreatDoorOver
import Derived.Test.YtnbanlmkoljghaaGreatDoorSum
import Derived.Test.YtnbanlmkoljghaaGreatDoorOne
namespace Go.Proofs.YtnbanlmkoljghaaGreatDoor
open Go Go.RowKit Dig

theorem gcd_step (a b : Nat) : Nat.gcd b (a % b) = Nat.gcd a b := by rw [Nat.gcd_comm a b, Nat.gcd_rec b a, Nat.gcd_comm]

set_option maxRecDepth 100000 in
set_option maxHeartbeats 1000000 in
theorem Common_any (w : World) (va vb : Value) (a b : Nat) (ha : RN w w.heap.size va (dig a)) (hb : RN w w.heap.size vb (dig b)) (hl : (dig a).length ≤ 100000) (hl' : (dig b).length ≤ 100000) :
    Calls Tryz.prog 71 #[va, vb] w fun e w' => Below w.heap.size w w' ∧ ∃ v, e = .returned v ∧ RN w' w'.heap.size v (dig (Nat.gcd a b)) := by
  have HA := Lib.hid ha
  have HB := Lib.hid hb
  clear ha hb
  go_enter Tryz.func71, Tryz.ntmps71
  go_wp2
  go_loopg [0, 1] b (fun gk xa xb wr => ∃ x y : Nat, Hid (gk = y) ∧ Hid (Nat.gcd x y = Nat.gcd a b) ∧ (dig x).length ≤ 100000 ∧ (dig y).length ≤ 100000 ∧ Hid (RN wr wr.heap.size xa (dig x)) ∧ (∃ B c, xb = .slice B (dig y).length c) ∧ Hid (RN wr wr.heap.size xb (dig y)) ∧ Below w.heap.size w wr)
  case atStart =>
    obtain ⟨B, c, rfl, _⟩ := HB.out.cell
    exact ⟨a, b, Lib.hid rfl, Lib.hid rfl, hl, hl', HA, ⟨B, c, rfl⟩, HB, Below.refl _ _⟩
  case round =>
    obtain ⟨x, y, hgk, hg, hlx, hly, hx, ⟨B, c, rfl⟩, hy, hbw⟩ := hrel
    by_cases hy0 : y = 0
    · have HL := Lib.hid (show (dig y).length = 0 by rw [hy0, dig_zero]; rfl)
      rw [HL.out]
      have hg2 := hg.out
      rw [hy0, Nat.gcd_zero_right] at hg2
      have HG := Lib.hid hg2
      clear hg2 hy0 hg hy hgk hly
      go_wp2
      go_ret
      rw [← HG.out]
      exact ⟨hbw, _, rfl, hx.out⟩
    · have hp := dig_len_pos hy0
      go_wp2_with fail
      refine (Over_any _ _ _ x y hx.out hy.out hy0 hlx).mono ?_
      rintro e w2 ⟨hb2, q, r, rfl, hq, hr⟩
      have HY := Lib.hid (hy.out.step hb2)
      obtain ⟨B', c', rfl, _⟩ := hr.cell
      have HR := Lib.hid hr
      have hmod := Nat.mod_lt x (Nat.pos_of_ne_zero hy0)
      have HM := Lib.hid hmod
      have hlr : (dig (x % y)).length ≤ 100000 := Nat.le_trans (dig_len_mono (Nat.le_of_lt hmod)) hly
      have HG := Lib.hid ((gcd_step x y).trans hg.out)
      clear hq hr hmod hg hx hy hy0
      go_wp2
      go_roundg (x % y)
      case measure => rw [hgk.out]; exact HM.out
      case rel => exact ⟨y, x % y, Lib.hid rfl, HG, hly, hlr, HY, ⟨_, _, rfl⟩, HR, hbw.trans (hb2.mono hbw.size)⟩

/-- Newton's step does not fall below the root. -/
theorem newton_sq (s x d : Nat) (h4 : 2 * s = x + d) : d * x ≤ s * s := by
  have e : (d : Int) * x ≤ (s : Int) * s := by
    have h4 : (2 : Int) * s = x + d := by omega
    have h5 : 0 ≤ ((x : Int) - d) * ((x : Int) - d) := by
      rcases Int.le_total 0 ((x : Int) - d) with h | h
      · exact Int.mul_nonneg h h
      · exact Int.mul_nonneg_of_nonpos_of_nonpos h h
    have h6 : (4 : Int) * (s * s) = (x + d) * (x + d) := by rw [← h4, Int.mul_assoc, Int.mul_left_comm (s : Int) 2 s]; omega
    have h7 : ((x : Int) + d) * (x + d) = ((x : Int) - d) * ((x : Int) - d) + 4 * (d * x) := by
      simp only [Int.add_mul, Int.mul_add, Int.sub_mul, Int.mul_sub, Int.mul_comm (x : Int) (d : Int)]; omega
    omega
  rw [← Int.natCast_mul, ← Int.natCast_mul] at e
  omega
theorem newton_ge {a s x : Nat} (hx : 0 < x) (hs : s * s ≤ a) : s ≤ (x + a / x) / 2 := by
  have key : ∀ d, d * x ≤ a → d ≤ a / x := fun d h => (Nat.le_div_iff_mul_le hx).2 h
  generalize a / x = q at *
  by_cases h2 : 2 * s ≤ x
  · omega
  · have h3 := newton_sq s x (2 * s - x) (by omega)
    have h4 := key (2 * s - x) (by omega)
    omega
theorem newton_stop {a x : Nat} (hx : 0 < x) (h : x ≤ (x + a / x) / 2) : x * x ≤ a := by
  have key : ∀ d, d ≤ a / x → d * x ≤ a := fun d h => (Nat.le_div_iff_mul_le hx).1 h
  generalize a / x = q at *
  exact key x (by omega)
theorem root_exists (a : Nat) : ∃ s, s * s ≤ a ∧ a < (s + 1) * (s + 1) := by
  induction a with
  | zero => exact ⟨0, by omega, by omega⟩
  | succ a ih =>
    obtain ⟨s, h1, h2⟩ := ih
    by_cases h : a + 1 < (s + 1) * (s + 1)
    · exact ⟨s, by omega, h⟩
    · refine ⟨s + 1, by omega, ?_⟩
      have : (s + 1 + 1) * (s + 1 + 1) = (s + 1) * (s + 1) + 2 * (s + 1) + 1 := by rw [Nat.succ_mul, Nat.mul_succ]; omega
      omega
theorem root_lt {a s x : Nat} (h1 : s * s ≤ a) (h2 : a < x * x) : s < x := by
  apply Nat.lt_of_not_le
  intro h
  have := Nat.mul_le_mul h h
  omega

set_option maxRecDepth 100000 in
set_option maxHeartbeats 1000000 in
/-- Newton's step. -/
theorem Next_any (w : World) (ba bx : Nat) (va vx : Value) (a x : Nat) (ha : One w ba 79 va) (hx : One w bx 79 vx) (hva : RN w w.heap.size va (dig a)) (hvx : RN w w.heap.size vx (dig x)) (hx0 : x ≠ 0)
    (hl : (dig a).length ≤ 100000) (hl' : (dig x).length ≤ 100000) :
    Calls Tryz.prog 105 #[.pointer (some ⟨ba, 0, none⟩), .pointer (some ⟨bx, 0, none⟩)] w fun e w' => Below w.heap.size w w' ∧ ∃ v, e = .returned v ∧ RN w' w'.heap.size v (dig ((x + a / x) / 2)) := by
  have HVA := Lib.hid hva
  have HVX := Lib.hid hvx
  have c1 := ha.cell
  have c2 := hx.cell
  have HX := Lib.hid hx
  clear hva hvx ha hx
  go_enter Tryz.func105, Tryz.ntmps105
  go_wp2_with fail
  refine (Over_any _ _ _ a x HVA.out HVX.out hx0 hl).mono ?_
  rintro e w2 ⟨hb2, q, r, rfl, hq, hr⟩
  have c2' := (HX.out.step hb2).cell
  have HQ := Lib.hid hq
  clear hq hr c1 c2
  go_wp2_with fail
  have hq9 : (dig (a / x)).length ≤ 1000000 := Nat.le_trans (dig_len_mono (Nat.div_le_self a x)) (by omega)
  have HQ9 := Lib.hid hq9
  clear hq9
  refine (Plus_any _ _ _ x (a / x) (HVX.out.step hb2) HQ.out (by omega) HQ9.out).mono ?_
  rintro e w3 ⟨hb3, v3, rfl, hv3⟩
  have HV3 := Lib.hid hv3
  have hs9 : (dig (x + a / x)).length ≤ 1000000 := by
    rw [dig_len_le]
    have h1 := dig_len_le.1 hl'
    have h2 := dig_len_le.1 (Nat.le_trans (dig_len_mono (Nat.div_le_self a x)) hl)
    have h3 : bp 100001 ≤ bp 1000000 := bp_le (by omega)
    have h4 : bp 100001 = 1000000000 * bp 100000 := bp_succ 100000
    generalize a / x = q at *
    generalize bp 1000000 = z at *
    omega
  have HS9 := Lib.hid hs9
  clear hs9 hv3 c2'
  go_wp2_with fail
  refine (Part_any _ _ (x + a / x) 2 HV3.out HS9.out (by omega) (by omega)).mono ?_
  rintro e w4 ⟨hb4, v4, rfl, hv4⟩
  have HV4 := Lib.hid hv4
  clear hv4
  go_wp2
  go_ret
  exact ⟨(hb2.trans (hb3.mono hb2.size)).trans (hb4.mono (Nat.le_trans hb2.size hb3.size)), _, rfl, HV4.out⟩

set_option maxRecDepth 100000 in
set_option maxHeartbeats 2000000 in
/-- Size.Root: the square root, rounded down. -/
theorem Root_any (w : World) (va : Value) (a : Nat) (ha : RN w w.heap.size va (dig a)) (hl : (dig a).length ≤ 90000) :
    Calls Tryz.prog 77 #[va] w fun e w' => Below w.heap.size w w' ∧ ∃ v s, e = .returned v ∧ s * s ≤ a ∧ a < (s + 1) * (s + 1) ∧ RN w' w'.heap.size v (dig s) := by
  have HVA := Lib.hid ha
  obtain ⟨A, ca, rfl, hca, hca', hA⟩ := ha.cell
  clear ha hA
  obtain ⟨s, hs1, hs2⟩ := root_exists a
  have HS1 := Lib.hid hs1
  have HS2 := Lib.hid hs2
  clear hs1 hs2
  by_cases ha0 : (dig a).length = 0
  · have HA0 := Lib.hid (dig_eq_nil.1 (List.eq_nil_of_length_eq_zero ha0))
    rw [ha0]
    go_enter Tryz.func77, Tryz.ntmps77
    go_wp2
    go_ret
    refine ⟨(Below.refl _ _).alloc (Nat.le_refl _) _, _, 0, rfl, by omega, by have := HA0.out; omega, by rw [dig_zero]; exact RI.nil _ _⟩
  · have hmk := mk_size (((dig a).length + 1) / 2 + 1) (by omega)
    rw [show (((((dig a).length + 1) / 2 + 1 : Nat)) : Int) = (((dig a).length : Int) + 1) / 2 + 1 by omega] at hmk
    have hap : 0 < (dig a).length := by omega
    obtain ⟨W3, hW3⟩ : ∃ W3, W3 = ((w.alloc (.cells #[.slice A (dig a).length ca] 79)).alloc (zerosObj (((dig a).length + 1) / 2 + 1))).alloc (.cells #[.slice (some ⟨w.heap.size + 1, 0, none⟩) (((dig a).length + 1) / 2 + 1) (((dig a).length + 1) / 2 + 1)] 79) := ⟨_, rfl⟩
    have hs1 : (w.alloc (.cells #[.slice A (dig a).length ca] 79)).heap.size = w.heap.size + 1 := by simp
    have hs2 : ((w.alloc (.cells #[.slice A (dig a).length ca] 79)).alloc (zerosObj (((dig a).length + 1) / 2 + 1))).heap.size = w.heap.size + 1 + 1 := by simp
    have hown : Own W3 (w.heap.size + 1) (List.replicate (((dig a).length + 1) / 2 + 1) 0) := by
      rw [hW3, ← hs1]; exact (own_new _ _).alloc _
    have hone1 : One W3 w.heap.size 79 (.slice A (dig a).length ca) := by
      rw [hW3]; exact ((One.new _ _ _).alloc _).alloc _
    have hone2 : One W3 (w.heap.size + 1 + 1) 79 (.slice (some ⟨w.heap.size + 1, 0, none⟩) (((dig a).length + 1) / 2 + 1) (((dig a).length + 1) / 2 + 1)) := by
      rw [hW3, ← hs2]; exact One.new _ _ _
    have hbel : Below w.heap.size w W3 := by
      rw [hW3]; exact (((Below.refl _ _).alloc (Nat.le_refl _) _).alloc (by simp) _).alloc (by simp; omega) _
    have hc1 := hown.cell (((dig a).length + 1) / 2) (by simp)
    have hf1 := hown.frozen (((dig a).length + 1) / 2)
    rw [List.getElem_replicate] at hc1
    have HC2 := Lib.hid hown
    have HO1 := Lib.hid hone1
    have HO2 := Lib.hid hone2
    have HB := Lib.hid hbel
    rw [hW3] at hc1 hf1
    have hw4 : W3.setCell ⟨w.heap.size + 1, ((dig a).length + 1) / 2, none⟩ (.int .i64 1) = (((w.alloc (.cells #[.slice A (dig a).length ca] 79)).alloc (zerosObj (((dig a).length + 1) / 2 + 1))).setCell ⟨w.heap.size + 1, ((dig a).length + 1) / 2, none⟩ (.int .i64 1)).alloc (.cells #[.slice (some ⟨w.heap.size + 1, 0, none⟩) (((dig a).length + 1) / 2 + 1) (((dig a).length + 1) / 2 + 1)] 79) := by
      rw [hW3]; exact World.setCell_alloc_past _ _ _ _ (by simp)
    have HW4 := Lib.hid hw4
    clear hw4
    have HW3 := Lib.hid hW3
    clear hown hone1 hone2 hbel hs1 hs2 hW3
    have hz0 : (((dig a).length : Int) == 0) = false := by rw [beq_eq_false_iff_ne]; omega
    go_enter Tryz.func77, Tryz.ntmps77
    go_wp2
    rw [← HW4.out]
    clear hc1 hf1 hmk
    have hown2 := HC2.out.set (((dig a).length + 1) / 2) 1 (by simp)
    have hset := set_top (((dig a).length + 1) / 2) 1 []
    simp only [ni, List.map_nil, List.append_nil, Int.natCast_one] at hset
    rw [hset] at hown2
    have hval : val (List.replicate (((dig a).length + 1) / 2) 0 ++ [1]) = bp (((dig a).length + 1) / 2) := by rw [val_snoc, val_replicate]; simp
    have hrn1 : RN (W3.setCell ⟨w.heap.size + 1, ((dig a).length + 1) / 2, none⟩ (.int .i64 1)) (W3.setCell ⟨w.heap.size + 1, ((dig a).length + 1) / 2, none⟩ (.int .i64 1)).heap.size
        (.slice (some ⟨w.heap.size + 1, 0, none⟩) (((dig a).length + 1) / 2 + 1) (((dig a).length + 1) / 2 + 1)) (dig (bp (((dig a).length + 1) / 2))) := by
      have e : dig (bp (((dig a).length + 1) / 2)) = List.replicate (((dig a).length + 1) / 2) 0 ++ [1] := dig_of ⟨(Small.replicate _).append (Small.cons (by omega) Small.nil), by simp⟩ hval
      rw [e]
      refine own_rn ?_ _ _ (by simp) (Nat.le_refl _) (by omega)
      rw [ni_append, ← ni_replicate]
      simpa [ni] using hown2
    have ho1 := HO1.out.far (p := ⟨w.heap.size + 1, ((dig a).length + 1) / 2, none⟩) (by show w.heap.size ≠ w.heap.size + 1; omega) (.int .i64 1)
    have ho2 := HO2.out.far (p := ⟨w.heap.size + 1, ((dig a).length + 1) / 2, none⟩) (by show w.heap.size + 1 + 1 ≠ w.heap.size + 1; omega) (.int .i64 1)
    have hb0 : Below w.heap.size w (W3.setCell ⟨w.heap.size + 1, ((dig a).length + 1) / 2, none⟩ (.int .i64 1)) := HB.out.setCell (by show w.heap.size ≤ w.heap.size + 1; omega) _
    have hsx : s ≤ bp (((dig a).length + 1) / 2) := by
      refine Nat.le_of_lt (root_lt HS1.out ?_)
      rw [← bp_add]
      exact Nat.lt_of_lt_of_le (dig_lt a) (bp_le (by omega))
    have hlx : (dig (bp (((dig a).length + 1) / 2))).length ≤ 90001 := dig_len_le.2 (bp_lt (by omega))
    have HSX := Lib.hid hsx
    have HRN := Lib.hid hrn1
    have HLX := Lib.hid hlx
    generalize W3.setCell ⟨w.heap.size + 1, ((dig a).length + 1) / 2, none⟩ (.int .i64 1) = W4 at *
    clear hown2 hset hrn1 HC2 HO1 HO2 HB HW3 hsx hlx hval
    go_loopg [5] (bp (((dig a).length + 1) / 2)) (fun gk yv wr => ∃ (x : Nat) (vx : Value), Hid (gk = x) ∧ Hid (s ≤ x ∧ (dig x).length ≤ 90001) ∧ (∃ B n c, vx = .slice B n c) ∧ Hid (RN wr wr.heap.size vx (dig x)) ∧
        Hid (One wr w.heap.size 79 (.slice A (dig a).length ca)) ∧ One wr (w.heap.size + 1 + 1) 79 vx ∧ Below w.heap.size w wr)
    case atStart => exact ⟨_, _, Lib.hid rfl, Lib.hid ⟨HSX.out, HLX.out⟩, ⟨_, _, _, rfl⟩, HRN, Lib.hid ho1, ho2, hb0⟩
    case round =>
      clear HRN ho1 ho2 hb0
      obtain ⟨x, vx, hgk, hsx, ⟨B, n, c, rfl⟩, hrx, hone1, hone2, hbw⟩ := hrel
      have hx0 : x ≠ 0 := by
        rintro rfl
        have h1 : s = 0 := by have := hsx.out.1; omega
        have h2 := HS2.out
        rw [h1] at h2
        have h3 : a = 0 := by omega
        rw [h3, dig_zero] at hap
        simp at hap
      have HX0 := Lib.hid hx0
      have hlx := hsx.out.2
      have HONE2 := Lib.hid hone2
      have hva := HVA.out.step hbw
      have HVA2 := Lib.hid hva
      have hc2 := hone2.cell
      clear hx0 hva hone2
      go_wp2_with fail
      refine (Next_any _ _ _ _ _ a x hone1.out HONE2.out HVA2.out hrx.out HX0.out (by omega) (by omega)).mono ?_
      rintro e w5 ⟨hb5, y, rfl, hy⟩
      have hone5 := HONE2.out.step hb5
      have hrx5 := hrx.out.step hb5
      have HY := Lib.hid hy
      have HRX5 := Lib.hid hrx5
      have HONE5 := Lib.hid hone5
      have hc5 := hone5.cell
      have hf5 := hone5.frozen
      have hb05 := hbw.trans (hb5.mono hbw.size)
      have hw5 : w.heap.size + 1 + 1 < w5.heap.size := hone5.lt
      clear hy hrx5 hone5 hc2
      go_wp2_with fail
      refine (Cmp_any _ _ _ ((x + a / x) / 2) x HY.out HRX5.out).mono ?_
      rintro e w6 ⟨hb6, cc, rfl, hcc⟩
      have hone6 := HONE5.out.step hb6
      have HONE6 := Lib.hid hone6
      have hc6 := hone6.cell
      have hf6 := hone6.frozen
      have hb06 := hb05.trans (hb6.mono hb05.size)
      have HY6 := Lib.hid (HY.out.step hb6)
      have HRX6 := Lib.hid (HRX5.out.step hb6)
      have HA6 := Lib.hid ((hone1.out.step hb5).step hb6)
      clear hc5 hf5 hone6
      by_cases hge : 0 ≤ cc
      · have HCC := Lib.hid hcc
        clear hcc
        go_wp2
        go_ret
        have hxs : x = s := by
          have h1 : x ≤ (x + a / x) / 2 := by
            have := HCC.out.1
            apply Nat.le_of_not_lt
            intro h
            have := this.2 h
            omega
          have h2 := newton_stop (Nat.pos_of_ne_zero HX0.out) h1
          have h3 := root_lt h2 HS2.out
          have h4 := hsx.out.1
          omega
        refine ⟨hb06, _, s, rfl, HS1.out, HS2.out, ?_⟩
        rw [← hxs]; exact HRX6.out
      · have hlt : cc < 0 := by omega
        have hyx : (x + a / x) / 2 < x := hcc.1.1 hlt
        have HYX := Lib.hid hyx
        have hsy := newton_ge (Nat.pos_of_ne_zero HX0.out) HS1.out
        have HSY := Lib.hid hsy
        obtain ⟨By, cy, rfl, _⟩ := HY6.out.cell
        clear hcc hge hyx hsy
        go_wp2
        go_roundg ((x + a / x) / 2)
        case measure => rw [hgk.out]; exact HYX.out
        case rel =>
          refine ⟨_, _, Lib.hid rfl, Lib.hid ⟨HSY.out, Nat.le_trans (dig_len_mono (Nat.le_of_lt HYX.out)) hlx⟩, ⟨_, _, _, rfl⟩, Lib.hid ?_, Lib.hid (HA6.out.far (by show w.heap.size ≠ w.heap.size + 1 + 1; omega) _), HONE6.out.set _, hb06.setCell (by show w.heap.size ≤ w.heap.size + 1 + 1; omega) _⟩
          have := RI.setOne HY6.out HONE6.out (fun n h => by cases h) (.slice By (dig ((x + a / x) / 2)).length cy)
          simpa [RN, World.setCell] using this
end Go.Proofs.YtnbanlmkoljghaaGreatDoor
