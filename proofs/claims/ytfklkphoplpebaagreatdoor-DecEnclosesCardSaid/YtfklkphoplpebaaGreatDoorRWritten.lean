/- The reference's Written: the text of a number and its places (written by gen_written.py). -/
import Derived.Test.YtfklkphoplpebaaGreatDoorRefc
import Derived.Test.YtfklkphoplpebaaGreatDoorRefb
import Derived.Test.YtfklkphoplpebaaGreatDoorEarly
import Derived.Test.YtfklkphoplpebaaGreatDoorDecP
import Derived.Test.YtfklkphoplpebaaGreatDoorPutL
namespace Go.Proofs.YtfklkphoplpebaaGreatDoor
open Go Go.RowKit Dig

theorem pow_len {k : Nat} (hk : k ≤ 18) : (dig ((10 ^ k : Nat) : Int).natAbs).length ≤ 100000 := by
  have h : 10 ^ k ≤ 10 ^ 18 := Nat.pow_le_pow_right (by omega) hk
  exact Nat.le_trans (dig_len_le.2 (show ((10 ^ k : Nat) : Int).natAbs < bp 3 by rw [Int.natAbs_natCast]; show _ < 1000000000000000000000000000; omega)) (by omega)
theorem pow_next (k : Nat) : ((10 ^ k : Nat) : Int) * 10 = ((10 ^ (k + 1) : Nat) : Int) := by rw [Nat.pow_succ]; simp
theorem pow_len2 {k : Nat} (hk : k ≤ 18) : (dig ((10 ^ k : Nat) : Int).natAbs).length ≤ 3 := by
  have h : 10 ^ k ≤ 10 ^ 18 := Nat.pow_le_pow_right (by omega) hk
  exact dig_len_le.2 (show ((10 ^ k : Nat) : Int).natAbs < bp 3 by rw [Int.natAbs_natCast]; show _ < 1000000000000000000000000000; omega)
theorem pow_ne (k : Nat) : ((10 ^ k : Nat) : Int) ≠ 0 := by have := Nat.pow_pos (n := k) (show 0 < 10 by omega); omega
theorem tdiv_n (a b : Nat) : Int.tdiv (a : Int) (b : Int) = ((a / b : Nat) : Int) := rfl
theorem tmod_n (a b : Nat) : Int.tmod (a : Int) (b : Int) = ((a % b : Nat) : Int) := rfl
theorem dd_small {n : Nat} (h : (dig n).length ≤ 1000) : (Lib.decDigits n).length ≤ 10000 := by have := (dd_len_dig n 1000 (by omega)).2 h; omega
theorem dig_ne {r : Nat} (h : r ≠ 0) : (((dig ((r : Nat) : Int).natAbs).length : Int) == 0) = false := by
  rw [Int.natAbs_natCast]
  rw [beq_eq_false_iff_ne]
  intro e
  have e2 : (dig r).length = 0 := by omega
  have e3 := List.eq_nil_of_length_eq_zero e2
  have e4 := val_dig r
  rw [e3] at e4
  exact h e4.symm
def strLen : Value → Nat | .string s => s.size | _ => 0
theorem dig_pos {r : Nat} (h : r ≠ 0) : 0 < (dig ((r : Nat) : Int).natAbs).length := by
  have h1 := dig_ne h
  rcases Nat.eq_zero_or_pos (dig ((r : Nat) : Int).natAbs).length with h2 | h2
  · rw [h2] at h1; cases h1
  · exact h2
theorem pow_prev (f : Nat) : Int.tdiv ((10 ^ (f + 1) : Nat) : Int) 10 = ((10 ^ f : Nat) : Int) := by
  show ((10 ^ (f + 1) / 10 : Nat) : Int) = _
  rw [Nat.pow_succ, Nat.mul_div_cancel _ (by omega)]
theorem mod_len {m e : Nat} (he : e ≤ 18) : (dig ((m % 10 ^ e : Nat) : Int).natAbs).length ≤ 100000 := by
  have h : m % 10 ^ e ≤ 10 ^ e := Nat.le_of_lt (Nat.mod_lt _ (Nat.pow_pos (by omega)))
  exact Nat.le_trans (dig_len_mono (show ((m % 10 ^ e : Nat) : Int).natAbs ≤ ((10 ^ e : Nat) : Int).natAbs by rw [Int.natAbs_natCast, Int.natAbs_natCast]; exact h)) (pow_len he)
theorem one_dig {g : Nat} (h : g < 10) : (dig (g : Int).natAbs).length ≤ 100000 := Nat.le_trans (dig_len_le.2 (show (g : Int).natAbs < bp 1 by rw [Int.natAbs_natCast]; show g < 1000000000; omega)) (by omega)
theorem ten_len2 : (dig (10 : Int).natAbs).length ≤ 90000 := Nat.le_trans (dig_len_le.2 (show 10 < bp 1 by decide)) (by omega)
theorem ten_len : (dig (10 : Int).natAbs).length ≤ 100000 := Nat.le_trans (dig_len_le.2 (show 10 < bp 1 by decide)) (by omega)
set_option linter.unusedSimpArgs false in
set_option maxRecDepth 100000 in
set_option maxHeartbeats 8000000 in
theorem RWritten_any (w : World) (v : Value) (z : Int) (ha : LV w w.heap.size v z) (hl : (dig z.natAbs).length ≤ 1000) (d : Nat) (hd : d ≤ 18) :
    Calls Tryz.prog 34 #[v, .int .i64 (d : Int)] w fun e w' => Below w.heap.size w w' ∧ ∃ t : ByteArray, e = .returned (.string t) ∧ t.data.toList = decT z d := by
  obtain ⟨nn, An, ln, cn, rfl, Hn⟩ := ha.opened
  have hnn := Lib.hid (LV.is Hn).1
  have HL := Lib.hid hl; have HD := Lib.hid hd; clear hl ha
  obtain ⟨w0, hw0⟩ : ∃ w0 : World, w0 = w.alloc (.cells #[.bool nn, .slice An ln cn] 66) := ⟨_, rfl⟩
  have B0 := Lib.hid (show Below w.heap.size w w0 by rw [hw0]; (repeat' (first | exact Below.refl _ _ | refine Below.drew ?_ | refine Below.alloc ?_ (by first | exact Nat.le_refl _ | (simp; done) | (simp; omega)) _)))
  have z0 : w.heap.size + 1 ≤ w0.heap.size := by rw [hw0]; simp
  have Ln : LB w0 w.heap.size (.bool nn) (.slice An ln cn) := by rw [hw0]; (repeat (first | (refine LB.new' ?_; simp; done) | refine LB.alloc ?_ _))
  have HN := Lib.hid (Hn.step B0.out); clear Hn
  subst hw0
  go_enter Tryz.func34, Tryz.ntmps34
  have q1_0 := Ln.cell0
  have q1_1 := Ln.cell1
  have q1_2 := Ln.frozen 0
  have q1_3 := Ln.frozen 1
  have q1_lt := Ln.lt
  go_upto_if 13 with (fail)
  go_cut [5] (fun s5 wx => ∃ (o : ByteArray) (nm : Bool) (Am : Option Addr) (lm cm : Nat), s5 = .string o ∧ Hid (o.data.toList = sign z) ∧ LB wx w.heap.size (.bool nm) (.slice Am lm cm) ∧ Hid (LV wx wx.heap.size (.agg #[.bool nm, .slice Am lm cm]) (z.natAbs : Int)) ∧ Hid (Below w.heap.size w wx))
  case first =>
    by_cases hz : z < 0
    · obtain rfl : nn = true := by rw [hnn.out]; exact decide_eq_true hz
      have q3_0 := Ln.cell0
      have q3_1 := Ln.cell1
      have q3_2 := Ln.frozen 0
      have q3_3 := Ln.frozen 1
      have q3_lt := Ln.lt
      go_wp2_with fail
      refine (RMinus_any _ _ z HN.out (by have := HL.out; omega)).mono ?_
      rintro e w2 ⟨hb2, v2, rfl, hv2⟩
      have B4 := Lib.hid hb2
      have z4 := B4.out.size
      have HB5 := Lib.hid (B0.out.trans (B4.out.mono B0.out.size))
      clear hb2
      clear q1_0 q1_1 q1_2 q1_3 q1_lt q3_0 q3_1 q3_2 q3_3 q3_lt
      rw [show -z = (z.natAbs : Int) by omega] at hv2
      obtain ⟨n6, Ad6, l6, c6, rfl, hv6⟩ := hv2.opened
      have Hm_6 := Lib.hid hv6
      clear hv2 hv6
      have Ln_7 := LB.step Ln B4.out
      have q8_0 := Ln_7.cell0
      have q8_1 := Ln_7.cell1
      have q8_2 := Ln_7.frozen 0
      have q8_3 := Ln_7.frozen 1
      have q8_lt := Ln_7.lt
      go_wp2
      go_meet
      refine ⟨⟨#[45]⟩, _, _, _, _, rfl, Lib.hid ?_, (Ln_7.set0 _).set1 _, Lib.hid ?_, Lib.hid ?_⟩
      · unfold sign; rw [if_pos hz]
      · exact LV.setLB Hm_6.out Ln_7 _ _ rfl rfl
      · exact below_set1 (below_set1 HB5.out (Nat.le_refl _) _ _) (Nat.le_refl _) _ _
    · obtain rfl : nn = false := by rw [hnn.out]; exact decide_eq_false hz
      go_wp2
      go_meet
      refine ⟨⟨#[]⟩, _, _, _, _, rfl, Lib.hid ?_, Ln, Lib.hid ?_, B0⟩
      · unfold sign; rw [if_neg (by omega)]
      · rw [show (z.natAbs : Int) = z by omega]; exact HN.out
  case rest =>
    obtain ⟨o, nm, Am, lm, cm, rfl, HO, Ln, HM, HBc⟩ := hcut
    have zc := HBc.out.size; have hltn := Ln.lt
    obtain ⟨m, hm⟩ : ∃ m : Nat, m = z.natAbs := ⟨_, rfl⟩
    rw [← hm] at HM HL
    have HMZ := Lib.hid hm; clear hm hnn
    go_wp2_with fail
    refine (ROf_any _ 1 (by decide) (by decide)).mono ?_
    rintro e w9 ⟨hb9, v3, rfl, hv3⟩
    have B10 := Lib.hid hb9
    have z10 := B10.out.size
    have HB11 := Lib.hid (HBc.out.trans (B10.out.mono HBc.out.size))
    clear hb9
    obtain ⟨p0, hp0⟩ : ∃ p0 : Int, p0 = 1 := ⟨_, rfl⟩; rw [← hp0] at hv3; have HP0 := Lib.hid hp0; clear hp0
    obtain ⟨n12, Ad12, l12, c12, rfl, hv12⟩ := hv3.opened
    have Hp_12 := Lib.hid hv12
    clear hv3 hv12
    have Ln_13 := LB.step Ln B10.out
    have q14_0 := Ln_13.cell0
    have q14_1 := Ln_13.cell1
    have q14_2 := Ln_13.frozen 0
    have q14_3 := Ln_13.frozen 1
    have q14_lt := Ln_13.lt
    go_wp2_with fail
    clear q14_0 q14_1 q14_2 q14_3 q14_lt
    obtain ⟨w15, hW15⟩ : ∃ w15 : World, w15 = (w9.alloc (.cells #[.bool n12, .slice Ad12 l12 c12] 66)) := ⟨_, rfl⟩
    rw [← hW15]
    have hb15 : Below w9.heap.size w9 w15 := by rw [hW15]; (repeat' (first | exact Below.refl _ _ | refine Below.drew ?_ | refine Below.alloc ?_ (by first | exact Nat.le_refl _ | (simp; done) | (simp; omega)) _))
    have Lp_15 : LB w15 (w9.heap.size) (.bool n12) (.slice Ad12 l12 c12) := by rw [hW15]; (repeat (first | (refine LB.new' ?_; simp; done) | refine LB.alloc ?_ _))
    have za15 : w9.heap.size + 1 ≤ w15.heap.size := by rw [hW15]; simp
    have B16 := Lib.hid hb15
    have z16 := B16.out.size
    have HB17 := Lib.hid (HB11.out.trans (B16.out.mono HB11.out.size))
    clear hb15 hW15
    have Ln_18 := LB.step Ln_13 B16.out
    have P1_3_19 := Lib.hid (B10.out.trans (B16.out.mono B10.out.size))
    have Hm_20 := Lib.hid (LV.step HM.out P1_3_19.out)
    have Hp_21 := Lib.hid (LV.step Hp_12.out B16.out)
    have hbn := Lib.hid (show w.heap.size < w9.heap.size by have h1 := hltn; omega)
    have HM1 : Hid (LV w15 w15.heap.size (.agg #[.bool nm, .slice Am lm cm]) (z.natAbs : Int)) := Lib.hid (by rw [← HMZ.out]; exact Hm_20.out)
    have HP1 := Lib.hid (show LV w15 w15.heap.size (.agg #[.bool n12, .slice Ad12 l12 c12]) ((10 ^ 0 : Nat) : Int) by have h := Hp_21.out; rw [HP0.out] at h; exact h)
    go_loopw [7] (fun iv wr => ∃ (k : Nat) (np : Bool) (Ap : Option Addr) (lp cp : Nat), k ≤ d ∧ iv = .int .i64 k ∧ LB wr (w9.heap.size) (.bool np) (.slice Ap lp cp) ∧ Hid (LV wr wr.heap.size (.agg #[.bool np, .slice Ap lp cp]) ((10 ^ k : Nat))) ∧ LB wr w.heap.size (.bool nm) (.slice Am lm cm) ∧ Hid (LV wr wr.heap.size (.agg #[.bool nm, .slice Am lm cm]) (z.natAbs : Int)) ∧ Hid (Below w.heap.size w wr)) (fun iv _ => d - (intOf iv).toNat)
    case atStart => exact ⟨0, _, _, _, _, Nat.zero_le _, rfl, Lp_15, HP1, Ln_18, HM1, Lib.hid HB17.out⟩
    case round =>
      clear HM1 HP1 HP0
      obtain ⟨k, np, Ap, lp, cp, hk, rfl, Lp, HPk, Ln, HMk, HBk⟩ := hrel
      have hltp := Lp.lt; have hltn2 := Ln.lt; have hbn2 := hbn.out
      by_cases hkd : k < d
      · have hkd2 : (k : Int) < (d : Int) := by omega
        go_upto_region 9 with (fail)
        have KS22 : ∀ w' : World, Below wr.heap.size wr w' → (Below wr.heap.size wr w' ∧ w'.cell? ⟨w9.heap.size, 0, none⟩ = some (.bool np) ∧ w'.cell? ⟨w9.heap.size, 1, none⟩ = some (.slice Ap lp cp)) := fun w' h => ⟨h, (LB.step Lp h).cell0, (LB.step Lp h).cell1⟩
        refine Early.start 3 (fun w' => Below wr.heap.size wr w' ∧ w'.cell? ⟨w9.heap.size, 0, none⟩ = some (.bool np) ∧ w'.cell? ⟨w9.heap.size, 1, none⟩ = some (.slice Ap lp cp)) (by kernel_rfl) ?_
        refine Early.take (i := 0) (.agg #[.bool np, .slice Ap lp cp]) rfl (by kernel_rfl) (by kernel_rfl) (by kernel_rfl) (by kernel_rfl) (by kernel_rfl) (fun _ _ _ h => h) (Or.inl ⟨by rfl, ?_⟩) ?_ ?_
        · intro w' hSw; obtain ⟨-, t0, t1⟩ := hSw; go_simp
        · exact KS22 _ (below_drew1 (Below.refl _ _))
        (try simp only [Act.put, List.setIfInBounds_toArray, List.set_cons_zero, List.set_cons_succ])
        refine Early.next (i := 1) (by kernel_rfl) rfl (fun K hK => ?_)
        go_simp
        (with_reducible refine (ROf_any _ 10 (by decide) (by decide)).mono ?_)
        rintro e w23 ⟨hb23, v7, rfl, hv7⟩
        replace hb23 := below_undrew hb23
        have B24 := Lib.hid hb23
        have z24 := B24.out.size
        have HB25 := Lib.hid (HBk.out.trans (B24.out.mono HBk.out.size))
        clear hb23
        refine hK _ _ (fun _ => KS22 _ B24.out) ?_
        clear hK K
        (try simp only [Act.put, List.setIfInBounds_toArray, List.set_cons_zero, List.set_cons_succ])
        obtain ⟨n26, Ad26, l26, c26, rfl, hv26⟩ := hv7.opened
        have Hten_26 := Lib.hid hv26
        clear hv7 hv26
        refine Early.next (i := 2) (by kernel_rfl) rfl (fun K hK => ?_)
        go_simp
        have Hp_27 := Lib.hid (LV.step HPk.out B24.out)
        (with_reducible refine (RProd_any _ _ _ ((10 ^ k : Nat) : Int) 10 Hp_27.out Hten_26.out (pow_len (by omega)) ten_len).mono ?_)
        rintro e w28 ⟨hb28, v8, rfl, hv8⟩
        have B29 := Lib.hid hb28
        have z29 := B29.out.size
        have HB30 := Lib.hid (HB25.out.trans (B29.out.mono HB25.out.size))
        clear hb28
        have P1_3_31 := Lib.hid (B24.out.trans (B29.out.mono B24.out.size))
        refine hK _ _ (fun _ => KS22 _ P1_3_31.out) ?_
        clear hK K
        (try simp only [Act.put, List.setIfInBounds_toArray, List.set_cons_zero, List.set_cons_succ])
        rw [pow_next] at hv8
        obtain ⟨n32, Ad32, l32, c32, rfl, hv32⟩ := hv8.opened
        have Hq_32 := Lib.hid hv32
        clear hv8 hv32
        have Lp_33 := LB.step Lp P1_3_31.out
        have q34_0 := Lp_33.cell0
        have q34_1 := Lp_33.cell1
        have q34_2 := Lp_33.frozen 0
        have q34_3 := Lp_33.frozen 1
        have q34_lt := Lp_33.lt
        refine Early.next (i := 3) (by kernel_rfl) rfl (fun K hK => ?_)
        go_simp
        refine hK _ _ (fun h => absurd h (by decide)) ?_
        clear hK K
        (try simp only [Act.put, List.setIfInBounds_toArray, List.set_cons_zero, List.set_cons_succ])
        refine Early.done (by kernel_rfl) ?_ _
        (try simp only [Exit.then])
        clear KS22
        clear q34_0 q34_1 q34_2 q34_3 q34_lt
        have Ln_35 := LB.step Ln P1_3_31.out
        obtain ⟨w36, hW36⟩ : ∃ w36 : World, w36 = (w28.setCell ⟨w9.heap.size, 0, none⟩ (.bool n32)).setCell ⟨w9.heap.size, 1, none⟩ (.slice Ad32 l32 c32) := ⟨_, rfl⟩
        rw [← hW36]
        have S36 := Lib.hid (show Soft w28 w36 by rw [hW36]; exact soft_put Lp_33)
        have Ln_36 : LB w36 (w.heap.size) (.bool nm) (.slice Am lm cm) := by rw [hW36]; exact lb_far (lb_far Ln_35 (Nat.ne_of_lt hbn2)) (Nat.ne_of_lt hbn2)
        have Lp_36 : LB w36 (w9.heap.size) (.bool n32) (.slice Ad32 l32 c32) := by rw [hW36]; exact (Lp_33.set0 _).set1 _
        have HBP36 := Lib.hid (show Below w.heap.size w w36 by rw [hW36]; exact below_set1 (below_set1 HB30.out (Nat.le_of_lt hbn2) _ _) (Nat.le_of_lt hbn2) _ _)
        have zw36 : w36.heap.size = w28.heap.size := by rw [hW36]; simp [World.setCell]
        clear hW36
        go_wp2
        go_roundw
        have Hq_37 := Lib.hid (LV.soft Hq_32.out (S36.out))
        have Hm_38 := Lib.hid (LV.soft HMk.out (((Soft.of B24.out).trans (Soft.of B29.out)).trans (S36.out)))
        case rel => exact ⟨k + 1, _, _, _, _, by omega, by go_num, Lp_36, Lib.hid Hq_37.out, Ln_36, Lib.hid Hm_38.out, Lib.hid HBP36.out⟩
        case measure => simp [intOf]; omega
      · obtain rfl : k = d := by omega
        have q40_0 := Ln.cell0
        have q40_1 := Ln.cell1
        have q40_2 := Ln.frozen 0
        have q40_3 := Ln.frozen 1
        have q40_lt := Ln.lt
        have q41_0 := Lp.cell0
        have q41_1 := Lp.cell1
        have q41_2 := Lp.frozen 0
        have q41_3 := Lp.frozen 1
        have q41_lt := Lp.lt
        go_wp2_with fail
        refine (RParts_any _ _ _ (z.natAbs : Int) ((10 ^ k : Nat) : Int) HMk.out HPk.out (pow_ne k) (by have h1 := HL.out; rw [HMZ.out] at h1; rw [Int.natAbs_natCast]; omega) (by have := pow_len2 (k := k) (by have := HD.out; omega); omega)).mono ?_
        rintro e w39 ⟨hb39, v9, v10, rfl, hv9, hv10⟩
        have B42 := Lib.hid hb39
        have z42 := B42.out.size
        have HB43 := Lib.hid (HBk.out.trans (B42.out.mono HBk.out.size))
        clear hb39
        clear q40_0 q40_1 q40_2 q40_3 q40_lt q41_0 q41_1 q41_2 q41_3 q41_lt
        rw [tdiv_n] at hv9; rw [tmod_n] at hv10
        obtain ⟨q, hq⟩ : ∃ q : Nat, q = m / 10 ^ k := ⟨_, rfl⟩; obtain ⟨r, hr⟩ : ∃ r : Nat, r = m % 10 ^ k := ⟨_, rfl⟩
        rw [← HMZ.out, ← hq] at hv9; rw [← HMZ.out, ← hr] at hv10; have HQ := Lib.hid hq; have HR := Lib.hid hr; clear hq hr
        obtain ⟨n44, Ad44, l44, c44, rfl, hv44⟩ := hv9.opened
        have Hwh_44 := Lib.hid hv44
        clear hv9 hv44
        obtain ⟨n45, Ad45, l45, c45, rfl, hv45⟩ := hv10.opened
        have Hre_45 := Lib.hid hv45
        clear hv10 hv45
        go_wp2_with fail
        obtain ⟨w46, hW46⟩ : ∃ w46 : World, w46 = ((w39.alloc (.cells #[.bool n44, .slice Ad44 l44 c44] 66)).alloc (.cells #[.bool n45, .slice Ad45 l45 c45] 66)) := ⟨_, rfl⟩
        rw [← hW46]
        have hb46 : Below w39.heap.size w39 w46 := by rw [hW46]; (repeat' (first | exact Below.refl _ _ | refine Below.drew ?_ | refine Below.alloc ?_ (by first | exact Nat.le_refl _ | (simp; done) | (simp; omega)) _))
        have Lwh_46 : LB w46 (w39.heap.size) (.bool n44) (.slice Ad44 l44 c44) := by rw [hW46]; (repeat (first | (refine LB.new' ?_; simp; done) | refine LB.alloc ?_ _))
        have Lre_46 : LB w46 (w39.heap.size + 1) (.bool n45) (.slice Ad45 l45 c45) := by rw [hW46]; (repeat (first | (refine LB.new' ?_; simp; done) | refine LB.alloc ?_ _))
        have za46 : w39.heap.size + 2 ≤ w46.heap.size := by rw [hW46]; simp
        have B47 := Lib.hid hb46
        have z47 := B47.out.size
        have HB48 := Lib.hid (HB43.out.trans (B47.out.mono HB43.out.size))
        clear hb46 hW46
        have q50_0 := Lwh_46.cell0
        have q50_1 := Lwh_46.cell1
        have q50_2 := Lwh_46.frozen 0
        have q50_3 := Lwh_46.frozen 1
        have q50_lt := Lwh_46.lt
        have Hwh_51 := Lib.hid (LV.step Hwh_44.out B47.out)
        refine (RDecimal_any _ _ (q : Int) Hwh_51.out (by have h1 := HL.out; have h2 := HQ.out; have h3 := HMZ.out; rw [Int.natAbs_natCast]; exact Nat.le_trans (dig_len_mono (show q ≤ z.natAbs by rw [h2, h3]; exact Nat.div_le_self _ _)) (by rw [HMZ.out] at h1; omega))).mono ?_
        rintro e w49 ⟨hb49, s1, rfl, hs1⟩
        have B52 := Lib.hid hb49
        have z52 := B52.out.size
        have HB53 := Lib.hid (HB48.out.trans (B52.out.mono HB48.out.size))
        clear hb49
        clear q50_0 q50_1 q50_2 q50_3 q50_lt
        rw [itoa_pos (by omega), Int.natAbs_natCast] at hs1; have HS1 := Lib.hid hs1
        have hsz1 : s1.size ≤ 10000 := by rw [Lib.size_eq, hs1, HQ.out]; exact dd_small (Nat.le_trans (dig_len_mono (Nat.div_le_self _ _)) HL.out)
        have hso : o.size ≤ 1 := by rw [Lib.size_eq, HO.out]; unfold sign; by_cases h : z < 0 <;> simp [h]
        have HSZ := Lib.hid hsz1; have HSO := Lib.hid hso
        have hcat : ¬ 9223372036854775807 < o.size + s1.size := by omega
        have hcat2 : ¬ 9223372036854775807 < o.size + s1.size + 1 := by omega
        clear hs1 hsz1 hso
        have P2_4_54 := Lib.hid (B47.out.trans (B52.out.mono B47.out.size))
        have Hre_55 := Lib.hid (LV.step Hre_45.out P2_4_54.out)
        have hlr := Lib.hid (LV.is Hre_55.out).2.1
        by_cases hr0 : r = 0
        · have hl0 : l45 = 0 := by rw [hlr.out, hr0, show ((0 : Nat) : Int).natAbs = 0 from rfl, dig_zero]; rfl
          have Lre_56 := LB.step Lre_46 B52.out
          have q57_0 := Lre_56.cell0
          have q57_1 := Lre_56.cell1
          have q57_2 := Lre_56.frozen 0
          have q57_3 := Lre_56.frozen 1
          have q57_lt := Lre_56.lt
          obtain rfl := hl0
          clear hlr
          go_wp2
          go_ret
          exact ⟨HB53.out, _, rfl, by rw [ByteArray.data_append, Array.toList_append, HO.out, HS1.out, HQ.out]; unfold decT; rw [← HMZ.out, trimZ_none (by rw [← HR.out]; exact hr0)]; simp [frac]⟩
        · have hr0x := Lib.hid hr0; have hl0 : ((l45 : Int) == 0) = false := by rw [hlr.out]; exact dig_ne (by omega)
          have Lre_58 := LB.step Lre_46 B52.out
          have q59_0 := Lre_58.cell0
          have q59_1 := Lre_58.cell1
          have q59_2 := Lre_58.frozen 0
          have q59_3 := Lre_58.frozen 1
          have q59_lt := Lre_58.lt
          have hl1 : ¬ (l45 : Int) = 0 := by intro h; rw [h] at hl0; cases hl0
          clear hlr
          go_wp2
          have P1_3_60 := Lib.hid (B42.out.trans (B47.out.mono B42.out.size))
          have P1_4_61 := Lib.hid (P1_3_60.out.trans (B52.out.mono P1_3_60.out.size))
          have Lp_62 := LB.step Lp P1_4_61.out
          have Hp_63 := Lib.hid (LV.step HPk.out P1_4_61.out)
          have P2_4_64 := Lib.hid (B47.out.trans (B52.out.mono B47.out.size))
          have Hre_65 := Lib.hid (LV.step Hre_45.out P2_4_64.out)
          have hbr := Lib.hid (show w9.heap.size < w39.heap.size + 1 by have h1 := hltp; omega)
          have hbw := Lib.hid (show w.heap.size ≤ w9.heap.size by have h1 := hbn2; omega)
          obtain ⟨C, hC⟩ : ∃ C : Nat, C = o.size + s1.size + 1 := ⟨_, rfl⟩; have HC := Lib.hid hC
          have HO1 := Lib.hid (show (o ++ s1 ++ ByteArray.mk #[46]).data.toList = sign z ++ Lib.decDigits (m / 10 ^ k) ++ 46 :: digs 0 (m / 10 ^ k) by simp only [ByteArray.data_append, Array.toList_append, HO.out, HS1.out, HQ.out]; rfl)
          have HSZ1 := Lib.hid (show (o ++ s1 ++ ByteArray.mk #[46]).size = C + 0 by rw [hC, ByteArray.size_append, ByteArray.size_append]; rfl)
          have HC9 := Lib.hid (show C ≤ 20000 by have h1 := HSZ.out; have h2 := HSO.out; omega)
          have HTR := Lib.hid (show m % 10 ^ k = 0 → trimZ (digs k m) = digs 0 (m / 10 ^ k) from fun h => absurd (HR.out.trans h) hr0)
          have HRR := Lib.hid (show LV w49 w49.heap.size (.agg #[.bool n45, .slice Ad45 l45 c45]) ((m % 10 ^ k : Nat) : Int) by rw [← HR.out]; exact Hre_65.out)
          clear hC hl0 hl1 hcat hcat2
          generalize o ++ s1 ++ ByteArray.mk #[46] = O1 at *
          go_loopw [5] (fun s5 wr => ∃ (i e : Nat) (O : ByteArray) (np : Bool) (Ap : Option Addr) (lp cp : Nat) (nr : Bool) (Ar : Option Addr) (lr cr : Nat), Hid (i + e = k) ∧ s5 = .string O ∧ Hid (O.data.toList = sign z ++ Lib.decDigits (m / 10 ^ k) ++ 46 :: digs i (m / 10 ^ e)) ∧ Hid (O.size = C + i) ∧ LB wr (w9.heap.size) (.bool np) (.slice Ap lp cp) ∧ Hid (LV wr wr.heap.size (.agg #[.bool np, .slice Ap lp cp]) ((10 ^ e : Nat) : Int)) ∧ LB wr (w39.heap.size + 1) (.bool nr) (.slice Ar lr cr) ∧ Hid (LV wr wr.heap.size (.agg #[.bool nr, .slice Ar lr cr]) ((m % 10 ^ e : Nat) : Int)) ∧ Hid (m % 10 ^ e = 0 → trimZ (digs k m) = digs i (m / 10 ^ e)) ∧ Hid (Below w.heap.size w wr)) (fun s5 _ => C + k - strLen s5)
          case atStart => exact ⟨0, k, _, _, _, _, _, _, _, _, _, Lib.hid (Nat.zero_add k), rfl, HO1, HSZ1, Lp_62, Lib.hid Hp_63.out, Lre_58, HRR, HTR, Lib.hid HB53.out⟩
          case round =>
            obtain ⟨i, e, O, np2, Ap2, lp2, cp2, nr, Ar2, lr, cr, HIE, rfl, HO2, HSZ2, Lp2, HPe, Lr2, HRe, HTe, HBe⟩ := hrel
            have hltp3 := Lp2.lt; have hltr3 := Lr2.lt
            have hlr := Lib.hid (LV.is HRe.out).2.1
            by_cases hr0 : m % 10 ^ e = 0
            · have hl0 : lr = 0 := by rw [hlr.out, hr0, show ((0 : Nat) : Int).natAbs = 0 from rfl, dig_zero]; rfl
              obtain rfl := hl0; clear hlr
              have q66_0 := Lr2.cell0
              have q66_1 := Lr2.cell1
              have q66_2 := Lr2.frozen 0
              have q66_3 := Lr2.frozen 1
              have q66_lt := Lr2.lt
              go_wp2
              go_ret
              exact ⟨HBe.out, _, rfl, by rw [HO2.out]; unfold decT; rw [← HMZ.out, HTe.out hr0]; unfold frac; rw [if_neg (by rw [← HTe.out hr0]; exact trimZ_some (by rw [← HR.out]; exact hr0x.out))]⟩
            · have hl0 : 0 < lr := by rw [hlr.out]; exact dig_pos hr0
              have hl1 : (0 : Int) < (lr : Int) := by omega
              clear hlr
              obtain ⟨f, rfl⟩ : ∃ f, e = f + 1 := by cases e with
                | zero => exact absurd (Nat.mod_one m) hr0
                | succ f => exact ⟨f, rfl⟩
              have q67_0 := Lr2.cell0
              have q67_1 := Lr2.cell1
              have q67_2 := Lr2.frozen 0
              have q67_3 := Lr2.frozen 1
              have q67_lt := Lr2.lt
              go_upto_region 16 with (fail)
              clear q67_0 q67_1 q67_2 q67_3 q67_lt
              have hfk : f < 18 := by have h1 := HIE.out; have h2 := HD.out; omega
              have KS68 : ∀ w' : World, Below wr.heap.size wr w' → (Below wr.heap.size wr w' ∧ w'.cell? ⟨w9.heap.size, 0, none⟩ = some (.bool np2) ∧ w'.cell? ⟨w9.heap.size, 1, none⟩ = some (.slice Ap2 lp2 cp2)) := fun w' h => ⟨h, (LB.step Lp2 h).cell0, (LB.step Lp2 h).cell1⟩
              refine Early.start 3 (fun w' => Below wr.heap.size wr w' ∧ w'.cell? ⟨w9.heap.size, 0, none⟩ = some (.bool np2) ∧ w'.cell? ⟨w9.heap.size, 1, none⟩ = some (.slice Ap2 lp2 cp2)) (by kernel_rfl) ?_
              refine Early.take (i := 0) (.agg #[.bool np2, .slice Ap2 lp2 cp2]) rfl (by kernel_rfl) (by kernel_rfl) (by kernel_rfl) (by kernel_rfl) (by kernel_rfl) (fun _ _ _ h => h) (Or.inl ⟨by rfl, ?_⟩) ?_ ?_
              · intro w' hSw; obtain ⟨-, t0, t1⟩ := hSw; go_simp
              · exact KS68 _ (below_drew1 (Below.refl _ _))
              (try simp only [Act.put, List.setIfInBounds_toArray, List.set_cons_zero, List.set_cons_succ])
              refine Early.next (i := 1) (by kernel_rfl) rfl (fun K hK => ?_)
              go_simp
              (with_reducible refine (ROf_any _ 10 (by decide) (by decide)).mono ?_)
              rintro e w69 ⟨hb69, v11, rfl, hv11⟩
              replace hb69 := below_undrew hb69
              have B70 := Lib.hid hb69
              have z70 := B70.out.size
              have HB71 := Lib.hid (HBe.out.trans (B70.out.mono HBe.out.size))
              clear hb69
              refine hK _ _ (fun _ => KS68 _ B70.out) ?_
              clear hK K
              (try simp only [Act.put, List.setIfInBounds_toArray, List.set_cons_zero, List.set_cons_succ])
              obtain ⟨n72, Ad72, l72, c72, rfl, hv72⟩ := hv11.opened
              have Hten_72 := Lib.hid hv72
              clear hv11 hv72
              refine Early.next (i := 2) (by kernel_rfl) rfl (fun K hK => ?_)
              go_simp
              have Hp_73 := Lib.hid (LV.step HPe.out B70.out)
              (with_reducible refine (RParts_any _ _ _ ((10 ^ (f + 1) : Nat) : Int) 10 Hp_73.out Hten_72.out (by decide) (pow_len (by omega)) ten_len2).mono ?_)
              rintro e w74 ⟨hb74, v12, v13, rfl, hv12, hv13⟩
              have B75 := Lib.hid hb74
              have z75 := B75.out.size
              have HB76 := Lib.hid (HB71.out.trans (B75.out.mono HB71.out.size))
              clear hb74
              have P1_3_77 := Lib.hid (B70.out.trans (B75.out.mono B70.out.size))
              refine hK _ _ (fun _ => KS68 _ P1_3_77.out) ?_
              clear hK K
              (try simp only [Act.put, List.setIfInBounds_toArray, List.set_cons_zero, List.set_cons_succ])
              rw [pow_prev] at hv12
              obtain ⟨n78, Ad78, l78, c78, rfl, hv78⟩ := hv12.opened
              have Hpq_78 := Lib.hid hv78
              clear hv12 hv78
              obtain ⟨n79, Ad79, l79, c79, rfl, hv79⟩ := hv13.opened
              have Hpr_79 := Lib.hid hv79
              clear hv13 hv79
              refine Early.pure (i := 3) (.tuple #[.agg #[.bool n78, .slice Ad78 l78 c78], .agg #[.bool n79, .slice Ad79 l79 c79]]) rfl (by kernel_rfl) (by decide) (by kernel_rfl) (by kernel_rfl) (fun _ _ _ h => h) (Or.inl ⟨by rfl, ?_⟩) ?_
              · intro w' _; go_simp
              (try simp only [Act.put, List.setIfInBounds_toArray, List.set_cons_zero, List.set_cons_succ])
              refine Early.pure (i := 4) (.agg #[.bool n78, .slice Ad78 l78 c78]) rfl (by kernel_rfl) (by decide) (by kernel_rfl) (by kernel_rfl) (fun _ _ _ h => h) (Or.inl ⟨by rfl, ?_⟩) ?_
              · intro w' _; go_simp
              (try simp only [Act.put, List.setIfInBounds_toArray, List.set_cons_zero, List.set_cons_succ])
              refine Early.pure (i := 5) (.agg #[.bool n79, .slice Ad79 l79 c79]) rfl (by kernel_rfl) (by decide) (by kernel_rfl) (by kernel_rfl) (fun _ _ _ h => h) (Or.inl ⟨by rfl, ?_⟩) ?_
              · intro w' _; go_simp
              (try simp only [Act.put, List.setIfInBounds_toArray, List.set_cons_zero, List.set_cons_succ])
              have Lp_80 := LB.step Lp2 P1_3_77.out
              have q81_0 := Lp_80.cell0
              have q81_1 := Lp_80.cell1
              have q81_2 := Lp_80.frozen 0
              have q81_3 := Lp_80.frozen 1
              have q81_lt := Lp_80.lt
              refine Early.next (i := 6) (by kernel_rfl) rfl (fun K hK => ?_)
              go_simp
              refine hK _ _ (fun h => absurd h (by decide)) ?_
              clear hK K
              (try simp only [Act.put, List.setIfInBounds_toArray, List.set_cons_zero, List.set_cons_succ])
              refine Early.done (by kernel_rfl) ?_ _
              (try simp only [Exit.then])
              clear KS68
              clear q81_0 q81_1 q81_2 q81_3 q81_lt
              have Lre_82 := LB.step Lr2 P1_3_77.out
              obtain ⟨w83, hW83⟩ : ∃ w83 : World, w83 = (w74.setCell ⟨w9.heap.size, 0, none⟩ (.bool n78)).setCell ⟨w9.heap.size, 1, none⟩ (.slice Ad78 l78 c78) := ⟨_, rfl⟩
              rw [← hW83]
              have S83 := Lib.hid (show Soft w74 w83 by rw [hW83]; exact soft_put Lp_80)
              have Lre_83 : LB w83 (w39.heap.size + 1) (.bool nr) (.slice Ar2 lr cr) := by rw [hW83]; exact lb_far (lb_far Lre_82 (Nat.ne_of_gt hbr.out)) (Nat.ne_of_gt hbr.out)
              have Lp_83 : LB w83 (w9.heap.size) (.bool n78) (.slice Ad78 l78 c78) := by rw [hW83]; exact (Lp_80.set0 _).set1 _
              have HBP83 := Lib.hid (show Below w.heap.size w w83 by rw [hW83]; exact below_set1 (below_set1 HB76.out hbw.out _ _) hbw.out _ _)
              have zw83 : w83.heap.size = w74.heap.size := by rw [hW83]; simp [World.setCell]
              clear hW83
              have q85_0 := Lre_83.cell0
              have q85_1 := Lre_83.cell1
              have q85_2 := Lre_83.frozen 0
              have q85_3 := Lre_83.frozen 1
              have q85_lt := Lre_83.lt
              have q86_0 := Lp_83.cell0
              have q86_1 := Lp_83.cell1
              have q86_2 := Lp_83.frozen 0
              have q86_3 := Lp_83.frozen 1
              have q86_lt := Lp_83.lt
              go_wp2_with fail
              have Hre_87 := Lib.hid (LV.soft HRe.out (((Soft.of B70.out).trans (Soft.of B75.out)).trans (S83.out)))
              have Hpq_88 := Lib.hid (LV.soft Hpq_78.out (S83.out))
              refine (RParts_any _ _ _ ((m % 10 ^ (f + 1) : Nat) : Int) ((10 ^ f : Nat) : Int) Hre_87.out Hpq_88.out (pow_ne f) (mod_len (by omega)) (Nat.le_trans (pow_len2 (k := f) (by omega)) (by omega))).mono ?_
              rintro e w84 ⟨hb84, v14, v15, rfl, hv14, hv15⟩
              have B89 := Lib.hid hb84
              have z89 := B89.out.size
              have HB90 := Lib.hid (HBP83.out.trans (B89.out.mono HBP83.out.size))
              clear hb84
              clear q85_0 q85_1 q85_2 q85_3 q85_lt q86_0 q86_1 q86_2 q86_3 q86_lt
              rw [tdiv_n, ten_step] at hv14; rw [tmod_n, ten_rest] at hv15
              obtain ⟨g, hg⟩ : ∃ g : Nat, g = m / 10 ^ f % 10 := ⟨_, rfl⟩; rw [← hg] at hv14; have HG := Lib.hid hg; clear hg
              obtain ⟨n91, Ad91, l91, c91, rfl, hv91⟩ := hv14.opened
              have Hdg_91 := Lib.hid hv91
              clear hv14 hv91
              obtain ⟨n92, Ad92, l92, c92, rfl, hv92⟩ := hv15.opened
              have Hlf_92 := Lib.hid hv92
              clear hv15 hv92
              go_wp2_with fail
              obtain ⟨w93, hW93⟩ : ∃ w93 : World, w93 = ((w84.alloc (.cells #[.bool n91, .slice Ad91 l91 c91] 66)).alloc (.cells #[.bool n92, .slice Ad92 l92 c92] 66)) := ⟨_, rfl⟩
              rw [← hW93]
              have hb93 : Below w84.heap.size w84 w93 := by rw [hW93]; (repeat' (first | exact Below.refl _ _ | refine Below.drew ?_ | refine Below.alloc ?_ (by first | exact Nat.le_refl _ | (simp; done) | (simp; omega)) _))
              have Ldg_93 : LB w93 (w84.heap.size) (.bool n91) (.slice Ad91 l91 c91) := by rw [hW93]; (repeat (first | (refine LB.new' ?_; simp; done) | refine LB.alloc ?_ _))
              have Llf_93 : LB w93 (w84.heap.size + 1) (.bool n92) (.slice Ad92 l92 c92) := by rw [hW93]; (repeat (first | (refine LB.new' ?_; simp; done) | refine LB.alloc ?_ _))
              have za93 : w84.heap.size + 2 ≤ w93.heap.size := by rw [hW93]; simp
              have B94 := Lib.hid hb93
              have z94 := B94.out.size
              have HB95 := Lib.hid (HB90.out.trans (B94.out.mono HB90.out.size))
              clear hb93 hW93
              have q97_0 := Ldg_93.cell0
              have q97_1 := Ldg_93.cell1
              have q97_2 := Ldg_93.frozen 0
              have q97_3 := Ldg_93.frozen 1
              have q97_lt := Ldg_93.lt
              have Hdg_98 := Lib.hid (LV.step Hdg_91.out B94.out)
              refine (RDecimal_any _ _ (g : Int) Hdg_98.out (one_dig (by rw [HG.out]; omega))).mono ?_
              rintro e w96 ⟨hb96, s2, rfl, hs2⟩
              have B99 := Lib.hid hb96
              have z99 := B99.out.size
              have HB100 := Lib.hid (HB95.out.trans (B99.out.mono HB95.out.size))
              clear hb96
              clear q97_0 q97_1 q97_2 q97_3 q97_lt
              rw [itoa_pos (by omega), Int.natAbs_natCast, dd_one (by rw [HG.out]; omega), HG.out] at hs2; have HS2 := Lib.hid hs2
              have hs22 : s2.size = 1 := by rw [Lib.size_eq, hs2]; rfl
              have HS22 := Lib.hid hs22
              have hcat3 : ¬ 9223372036854775807 < O.size + s2.size := by have h1 := HSZ2.out; have h2 := HC9.out; have h3 := HIE.out; have h4 := HD.out; omega
              clear hs2 hs22
              have Llf_101 := LB.step Llf_93 B99.out
              have q102_0 := Llf_101.cell0
              have q102_1 := Llf_101.cell1
              have q102_2 := Llf_101.frozen 0
              have q102_3 := Llf_101.frozen 1
              have q102_lt := Llf_101.lt
              have P4_6_103 := Lib.hid (B89.out.trans (B94.out.mono B89.out.size))
              have P4_7_104 := Lib.hid (P4_6_103.out.trans (B99.out.mono P4_6_103.out.size))
              have Lre_105 := LB.step Lre_83 P4_7_104.out
              have q106_0 := Lre_105.cell0
              have q106_1 := Lre_105.cell1
              have q106_2 := Lre_105.frozen 0
              have q106_3 := Lre_105.frozen 1
              have q106_lt := Lre_105.lt
              go_wp2
              clear q102_0 q102_1 q102_2 q102_3 q102_lt q106_0 q106_1 q106_2 q106_3 q106_lt
              have Lp_107 := LB.step Lp_83 P4_7_104.out
              obtain ⟨w108, hW108⟩ : ∃ w108 : World, w108 = (w96.setCell ⟨w39.heap.size + 1, 0, none⟩ (.bool n92)).setCell ⟨w39.heap.size + 1, 1, none⟩ (.slice Ad92 l92 c92) := ⟨_, rfl⟩
              rw [← hW108]
              have S108 := Lib.hid (show Soft w96 w108 by rw [hW108]; exact soft_put Lre_105)
              have Lp_108 : LB w108 (w9.heap.size) (.bool n78) (.slice Ad78 l78 c78) := by rw [hW108]; exact lb_far (lb_far Lp_107 (Nat.ne_of_lt hbr.out)) (Nat.ne_of_lt hbr.out)
              have Lre_108 : LB w108 (w39.heap.size + 1) (.bool n92) (.slice Ad92 l92 c92) := by rw [hW108]; exact (Lre_105.set0 _).set1 _
              have HBP108 := Lib.hid (show Below w.heap.size w w108 by rw [hW108]; exact below_set1 (below_set1 HB100.out (Nat.le_of_lt (Nat.lt_of_le_of_lt hbw.out hbr.out)) _ _) (Nat.le_of_lt (Nat.lt_of_le_of_lt hbw.out hbr.out)) _ _)
              have zw108 : w108.heap.size = w96.heap.size := by rw [hW108]; simp [World.setCell]
              clear hW108
              have Hpq_109 := Lib.hid (LV.soft Hpq_88.out ((((Soft.of B89.out).trans (Soft.of B94.out)).trans (Soft.of B99.out)).trans (S108.out)))
              have Hlf_110 := Lib.hid (LV.soft Hlf_92.out (((Soft.of B94.out).trans (Soft.of B99.out)).trans (S108.out)))
              go_roundw
              case rel =>
                have e1 : (O ++ s2).data.toList = sign z ++ Lib.decDigits (m / 10 ^ k) ++ 46 :: digs (i + 1) (m / 10 ^ f) := by rw [ByteArray.data_append, Array.toList_append, HO2.out, HS2.out, digs_next]; simp
                have e2 : (O ++ s2).size = C + (i + 1) := by have h1 := HSZ2.out; have h2 := HS22.out; rw [ByteArray.size_append]; omega
                exact ⟨i + 1, f, _, _, _, _, _, _, _, _, _, Lib.hid (by have h1 := HIE.out; omega), rfl, Lib.hid e1, Lib.hid e2, Lp_108, Lib.hid Hpq_109.out, Lre_108, Lib.hid Hlf_110.out, Lib.hid (fun h => trimZ_end (by have h1 := HIE.out; omega) h hr0), Lib.hid HBP108.out⟩
              case measure => simp only [strLen, ByteArray.size_append]; have h1 := HSZ2.out; have h2 := HIE.out; have h3 := HS22.out; omega
end Go.Proofs.YtfklkphoplpebaaGreatDoor
