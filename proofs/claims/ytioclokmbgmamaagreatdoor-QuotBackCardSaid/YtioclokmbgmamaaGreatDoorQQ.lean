/- The law package's small functions of layer 04: is, fails, says, spans, of (written by gen_qq.py). -/
import Derived.Test.YtioclokmbgmamaaGreatDoorQN
namespace Go.Proofs.YtioclokmbgmamaaGreatDoor
open Go Go.RowKit Dig
theorem lit_whole {s : List UInt8} {x : Int} (h : litB s x = true) : textQ (mkRat x 1) = s := by
 obtain ⟨h1, h2⟩ := mkRat_low (x := x) (y := 1) (by decide) (Nat.gcd_one_right _)
 rw [textQ, if_pos h2, h1]; exact lit_itoa h
theorem lit_frac {s1 s2 : List UInt8} {x : Int} {d : Nat} (h1 : litB s1 x = true) (h2 : litB s2 (d : Int) = true) (hd : 2 ≤ d) (hg : Nat.gcd x.natAbs d = 1) : textQ (mkRat x d) = s1 ++ 47 :: s2 := by
 obtain ⟨e1, e2⟩ := mkRat_low (x := x) (y := d) (by omega) hg
 rw [textQ, if_neg (by omega), e1, e2, lit_itoa h1, lit_itoa h2]
theorem lit_QL {x : Int} {d : Nat} (hd : 0 < d) (hg : Nat.gcd x.natAbs d = 1) (h1 : x.natAbs < 1000000000000000000000000000) (h2 : d < 1000000000000000000000000000) : QL 600 600 (mkRat x d) := by
 obtain ⟨e1, e2⟩ := mkRat_low (x := x) (y := d) hd hg
 exact ⟨by rw [e1]; exact small_len h1, by rw [e2]; exact small_len (z := (d : Int)) (by simpa using h2)⟩
theorem parse_lit {s : List UInt8} {q : Rat} (h : textQ q = s) (l : QL 600 600 q) : parseQ s = (some q, 0) := by rw [← h]; exact parse_textQ l
theorem toldQ_lit {a c : Rat} (h : a = c) (l : QL 600 600 c) : toldQ a = (some c, 0) := by rw [h]; exact if_pos l
theorem mkQ_lit {x y : Int} {c : Rat} (hy : y ≠ 0) (h : Rat.divInt x y = c) (l : QL 600 600 c) : mkQ x y = (some c, 0) := by rw [mkQ, if_neg hy]; exact toldQ_lit h l
theorem QR.zero {w : World} {v : Value} (h : QR w w.heap.size v false [] false []) : ∃ A c A' c', v = .agg #[.bool false, .slice A 0 c, .bool false, .slice A' 0 c'] := by
 obtain ⟨A, l, c, A', l', c', e, h1, h2⟩ := h
 have e1 := RI.len h1; have e2 := RI.len h2
 simp at e1 e2
 subst e1; subst e2
 exact ⟨A, c, A', c', e⟩
theorem isQ_new (w : World) (s : ByteArray) :
  Calls Tryz.prog 46 #[.string s] w fun e w' => Below w.heap.size w w' ∧ ∃ N, e = .returned (.func (.func 108) #[] #[.pointer (some ⟨N, 0, none⟩)]) ∧ One w' N 9 (.string s) := by
 go_enter Tryz.func46, Tryz.ntmps46
 go_wp2
 go_ret
 refine ⟨?_, _, rfl, One.new _ _ _⟩
 exact below_alloc1 (Below.refl _ _) _
theorem failsQ_new (w : World) (c : Int) :
  Calls Tryz.prog 39 #[.int .i64 c] w fun e w' => Below w.heap.size w w' ∧ ∃ N, e = .returned (.func (.func 96) #[] #[.pointer (some ⟨N, 0, none⟩)]) ∧ One w' N 38 (.int .i64 c) := by
 go_enter Tryz.func39, Tryz.ntmps39
 go_wp2
 go_ret
 refine ⟨?_, _, rfl, One.new _ _ _⟩
 exact below_alloc1 (Below.refl _ _) _
theorem saysQ_new (w : World) (c : Int) :
  Calls Tryz.prog 50 #[.int .i64 c] w fun e w' => Below w.heap.size w w' ∧ ∃ N, e = .returned (.func (.func 111) #[] #[.pointer (some ⟨N, 0, none⟩)]) ∧ One w' N 3 (.int .i64 c) := by
 go_enter Tryz.func50, Tryz.ntmps50
 go_wp2
 go_ret
 refine ⟨?_, _, rfl, One.new _ _ _⟩
 exact below_alloc1 (Below.refl _ _) _
theorem spansQ_new (w : World) (lo hi : Int) :
  Calls Tryz.prog 49 #[.int .i64 lo, .int .i64 hi] w fun e w' => Below w.heap.size w w' ∧ ∃ N N', e = .returned (.func (.func 110) #[] #[.pointer (some ⟨N, 0, none⟩), .pointer (some ⟨N', 0, none⟩)]) ∧ One w' N 3 (.int .i64 lo) ∧ One w' N' 3 (.int .i64 hi) := by
 have H1 := Lib.hid (One.step (One.new w 3 (.int .i64 lo)) (below_alloc1 (Below.refl _ _) (.cells #[.int .i64 hi] 3)))
 have H2 := Lib.hid (One.new (w.alloc (.cells #[.int .i64 lo] 3)) 3 (.int .i64 hi))
 have HB := Lib.hid (below_alloc1 (below_alloc1 (Below.refl w.heap.size w) (.cells #[.int .i64 lo] 3)) (.cells #[.int .i64 hi] 3))
 go_enter Tryz.func49, Tryz.ntmps49
 go_wp2
 go_ret
 refine ⟨HB.out, _, _, rfl, H1.out, ?_⟩
 have h := H2.out
 simpa using h
theorem saysQ_yes {w : World} {b : Nat} {n : Int} (h : One w b 3 (.int .i64 n)) :
  Calls Tryz.prog 111 #[.int .i64 n, .int .i64 0, .pointer (some ⟨b, 0, none⟩)] w fun e w' => Below w.heap.size w w' ∧ e = .returned (.bool true) := by
 have q := h.cell
 go_enter Tryz.func111, Tryz.ntmps111
 go_wp2
 go_ret
 exact ⟨Below.refl _ _, rfl⟩
theorem spansQ_yes {w : World} {b c : Nat} {lo hi : Int} (h : One w b 3 (.int .i64 lo)) (k : One w c 3 (.int .i64 hi)) :
  Calls Tryz.prog 110 #[.agg #[.int .i64 lo, .int .i64 hi], .int .i64 0, .pointer (some ⟨b, 0, none⟩), .pointer (some ⟨c, 0, none⟩)] w fun e w' => Below w.heap.size w w' ∧ e = .returned (.bool true) := by
 have HB := Lib.hid (below_alloc1 (Below.refl w.heap.size w) (.cells #[.int .i64 lo, .int .i64 hi] 52))
 have q0 := h.cell; have q1 := k.cell; have l0 := h.lt; have l1 := k.lt
 go_enter Tryz.func110, Tryz.ntmps110
 go_wp2
 go_ret
 exact ⟨HB.out, rfl⟩
set_option maxRecDepth 100000 in
set_option maxHeartbeats 4000000 in
theorem isQ_yes {w : World} {N : Nat} {s : ByteArray} {v : Value} {q : Rat} (hN : One w N 9 (.string s)) (hv : QV w w.heap.size v q) (l : QL 600 600 q) (ht : textQ q = s.data.toList) (G : Glob w) :
  Calls Tryz.prog 108 #[v, .int .i64 0, .pointer (some ⟨N, 0, none⟩)] w fun e w' => Below w.heap.size w w' ∧ e = .returned (.bool true) := by
 obtain ⟨n, A, l1, c, m, A', l', c', rfl⟩ := QO.cells (show QO w w.heap.size v (some q) from hv)
 have HA := Lib.hid hv; have HLQ := Lib.hid l; have HT := Lib.hid ht; clear hv l ht
 obtain ⟨w0, hw0⟩ : ∃ w0 : World, w0 = (w.alloc (.cells #[.bool n, .slice A l1 c, .bool m, .slice A' l' c'] 26)) := ⟨_, rfl⟩
 have B0 := Lib.hid (show Below w.heap.size w w0 by rw [hw0]; (repeat' (first | exact Below.refl _ _ | refine Below.drew ?_ | refine Below.alloc ?_ (by first | exact Nat.le_refl _ | (simp; done) | (simp; omega)) _)))
 have z0 : w.heap.size + 1 ≤ w0.heap.size := by rw [hw0]; simp
 have La : CB w0 (w.heap.size) 26 #[.bool n, .slice A l1 c, .bool m, .slice A' l' c'] := by rw [hw0]; have h := CB.new w 26 #[.bool n, .slice A l1 c, .bool m, .slice A' l' c']; simpa using h
 replace HA := Lib.hid (QV.step HA.out B0.out)
 have HN := One.step hN B0.out; have hnl := hN.lt; clear hN
 go_enter Tryz.func108, Tryz.ntmps108
 go_upto_region 1 with (fail)
 rw [← hw0]; clear hw0
 have q2_0 := La.cell 0 rfl
 have q2_1 := La.cell 1 rfl
 have q2_2 := La.cell 2 rfl
 have q2_3 := La.cell 3 rfl
 have q2_lt := La.lt
 go_wp2_with fail
 refine (QText_good _ _ q HA.out HLQ.out (G.step B0.out)).mono ?_
 rintro e w1 ⟨hb1, t, rfl, ht⟩
 have B3 := Lib.hid hb1
 have z3 := B3.out.size
 have HB4 := Lib.hid (B0.out.trans (B3.out.mono B0.out.size))
 clear hb1
 clear q2_0 q2_1 q2_2 q2_3 q2_lt
 have k : (t.toList == s.toList) = true := by rw [beq_str, ht, HT.out]; simp
 clear ht
 have LN_5 := One.step HN B3.out
 have q6_0 := LN_5.cell; have q6_1 := LN_5.frozen; have q6_lt := LN_5.lt
 go_wp2
 go_ret
 exact ⟨HB4.out, rfl⟩
set_option maxRecDepth 100000 in
set_option maxHeartbeats 4000000 in
theorem failsQ_yes {w : World} {N : Nat} {c : Int} {v : Value} (hN : One w N 38 (.int .i64 c)) (hv : QR w w.heap.size v false [] false []) :
  Calls Tryz.prog 96 #[v, .int .i64 c, .pointer (some ⟨N, 0, none⟩)] w fun e w' => Below w.heap.size w w' ∧ e = .returned (.bool true) := by
 obtain ⟨A, c1, A', c1', rfl⟩ := hv.zero
 have HA := Lib.hid hv; clear hv
 obtain ⟨w0, hw0⟩ : ∃ w0 : World, w0 = (w.alloc (.cells #[.bool false, .slice A 0 c1, .bool false, .slice A' 0 c1'] 26)) := ⟨_, rfl⟩
 have B0 := Lib.hid (show Below w.heap.size w w0 by rw [hw0]; (repeat' (first | exact Below.refl _ _ | refine Below.drew ?_ | refine Below.alloc ?_ (by first | exact Nat.le_refl _ | (simp; done) | (simp; omega)) _)))
 have z0 : w.heap.size + 1 ≤ w0.heap.size := by rw [hw0]; simp
 have La : CB w0 (w.heap.size) 26 #[.bool false, .slice A 0 c1, .bool false, .slice A' 0 c1'] := by rw [hw0]; have h := CB.new w 26 #[.bool false, .slice A 0 c1, .bool false, .slice A' 0 c1']; simpa using h
 replace HA := Lib.hid (QR.step HA.out B0.out)
 have HN := One.step hN B0.out; have hnl := hN.lt; clear hN
 go_enter Tryz.func96, Tryz.ntmps96
 go_upto_region 1 with (fail)
 rw [← hw0]; clear hw0
 have q2_0 := La.cell 0 rfl
 have q2_1 := La.cell 1 rfl
 have q2_2 := La.cell 2 rfl
 have q2_3 := La.cell 3 rfl
 have q2_lt := La.lt
 go_wp2_with fail
 refine (QSame_any _ _ _ false false false false [] [] [] [] HA.out (zeroQ _ _)).mono ?_
 rintro e w1 ⟨hb1, rfl⟩
 have B3 := Lib.hid hb1
 have z3 := B3.out.size
 have HB4 := Lib.hid (B0.out.trans (B3.out.mono B0.out.size))
 clear hb1
 clear q2_0 q2_1 q2_2 q2_3 q2_lt
 rw [show decide (((false : Bool) = false ∧ ([] : List Int) = []) ∧ ((false : Bool) = false ∧ ([] : List Int) = [])) = true from rfl]
 have LN_5 := One.step HN B3.out
 have q6_0 := LN_5.cell; have q6_1 := LN_5.frozen; have q6_lt := LN_5.lt
 go_wp2
 go_ret
 exact ⟨HB4.out, rfl⟩
set_option maxRecDepth 100000 in
set_option maxHeartbeats 4000000 in
theorem ofQ_lit (w : World) (s : ByteArray) (q : Rat) (h : parseQ s.data.toList = (some q, 0)) (hs : s.size ≤ 1000000) (M : MaxL w) :
  Calls Tryz.prog 43 #[.string s] w fun e w' => Below w.heap.size w w' ∧ ∃ v, e = .returned v ∧ QV w' w'.heap.size v q := by
 have HP := Lib.hid h; have HS := Lib.hid hs; clear h hs
 obtain ⟨w0, hw0⟩ : ∃ w0 : World, w0 = (w.alloc (.cells #[.bool false, .slice none 0 0, .bool false, .slice none 0 0] 26)) := ⟨_, rfl⟩
 have B0 := Lib.hid (show Below w.heap.size w w0 by rw [hw0]; (repeat' (first | exact Below.refl _ _ | refine Below.drew ?_ | refine Below.alloc ?_ (by first | exact Nat.le_refl _ | (simp; done) | (simp; omega)) _)))
 have z0 : w.heap.size + 1 ≤ w0.heap.size := by rw [hw0]; simp
 have Lr2 : CB w0 (w.heap.size) 26 #[.bool false, .slice none 0 0, .bool false, .slice none 0 0] := by rw [hw0]; have h := CB.new w 26 #[.bool false, .slice none 0 0, .bool false, .slice none 0 0]; simpa using h
 go_enter Tryz.func43, Tryz.ntmps43
 go_upto_region 1 with (fail)
 rw [← hw0]; clear hw0
 go_wp2_with fail
 refine (QParse_any _ s HS.out (M.step B0.out)).mono ?_
 rintro e w1 ⟨hb1, v, rfl, hv⟩
 have B2 := Lib.hid hb1
 have z2 := B2.out.size
 have HB3 := Lib.hid (B0.out.trans (B2.out.mono B0.out.size))
 clear hb1
 rw [HP.out] at hv ⊢; replace hv : QV w1 w1.heap.size v q := hv
 obtain ⟨on4, oA4, ol4, oc4, oB4, om_4, od4, rfl, ha4, hb4, hc4⟩ := hv
 have Hr_4 := Lib.hid (show QV w1 w1.heap.size (.agg #[.bool on4, .slice oA4 ol4 oc4, .bool false, .slice oB4 om_4 od4]) q from ⟨_, _, _, _, _, _, _, rfl, ha4, hb4, hc4⟩)
 clear ha4 hb4 hc4
 go_upto_region 2 with (fail)
 obtain ⟨w5, hW5⟩ : ∃ w5 : World, w5 = (w1.alloc (.cells #[.bool on4, .slice oA4 ol4 oc4, .bool false, .slice oB4 om_4 od4] 26)) := ⟨_, rfl⟩; rw [← hW5]
 have hb5 : Below w1.heap.size w1 w5 := by rw [hW5]; (repeat' (first | exact Below.refl _ _ | refine Below.drew ?_ | refine Below.alloc ?_ (by first | exact Nat.le_refl _ | (simp; done) | (simp; omega)) _))
 have La_5 : CB w5 (w1.heap.size) 26 #[.bool on4, .slice oA4 ol4 oc4, .bool false, .slice oB4 om_4 od4] := by rw [hW5]; have h := CB.new w1 26 #[.bool on4, .slice oA4 ol4 oc4, .bool false, .slice oB4 om_4 od4]; simpa using h
 have za5 : w1.heap.size + 1 ≤ w5.heap.size := by rw [hW5]; simp
 have B6 := Lib.hid hb5
 have z6 := B6.out.size
 have HB7 := Lib.hid (HB3.out.trans (B6.out.mono HB3.out.size))
 clear hb5 hW5
 have q8_0 := La_5.cell 0 rfl
 have q8_1 := La_5.cell 1 rfl
 have q8_2 := La_5.cell 2 rfl
 have q8_3 := La_5.cell 3 rfl
 have q8_lt := La_5.lt
 have P1_3_10 := Lib.hid (B2.out.trans (B6.out.mono B2.out.size))
 have Lr2_9 := CB.step Lr2 P1_3_10.out
 have q11_0 := Lr2_9.cell 0 rfl
 have q11_1 := Lr2_9.cell 1 rfl
 have q11_2 := Lr2_9.cell 2 rfl
 have q11_3 := Lr2_9.cell 3 rfl
 have q11_lt := Lr2_9.lt
 have q12_0 := Lr2_9.frozen 0
 have q12_1 := Lr2_9.frozen 1
 have q12_2 := Lr2_9.frozen 2
 have q12_3 := Lr2_9.frozen 3
 have q12_lt := Lr2_9.lt
 go_wp2
 clear q8_0 q8_1 q8_2 q8_3 q8_lt q11_0 q11_1 q11_2 q11_3 q11_lt q12_0 q12_1 q12_2 q12_3 q12_lt
 obtain ⟨w13, hW13⟩ : ∃ w13 : World, w13 = ((((w5.setCell ⟨w.heap.size, 0, none⟩ (.bool on4)).setCell ⟨w.heap.size, 1, none⟩ (.slice oA4 ol4 oc4)).setCell ⟨w.heap.size, 2, none⟩ (.bool false)).setCell ⟨w.heap.size, 3, none⟩ (.slice oB4 om_4 od4)) := ⟨_, rfl⟩
 rw [← hW13]
 have S13 := Lib.hid (show Soft w5 w13 by rw [hW13]; exact (((CB.soft1 (Lr2_9) (by simp [noInt_b, noInt_s]) 0 (.bool on4)).trans (CB.soft1 ((show CB _ (w.heap.size) 26 #[.bool on4, .slice none 0 0, .bool false, .slice none 0 0] from CB.set (Lr2_9) 0 (.bool on4))) (by simp [noInt_b, noInt_s]) 1 (.slice oA4 ol4 oc4))).trans (CB.soft1 ((show CB _ (w.heap.size) 26 #[.bool on4, .slice oA4 ol4 oc4, .bool false, .slice none 0 0] from CB.set ((show CB _ (w.heap.size) 26 #[.bool on4, .slice none 0 0, .bool false, .slice none 0 0] from CB.set (Lr2_9) 0 (.bool on4))) 1 (.slice oA4 ol4 oc4))) (by simp [noInt_b, noInt_s]) 2 (.bool false))).trans (CB.soft1 ((show CB _ (w.heap.size) 26 #[.bool on4, .slice oA4 ol4 oc4, .bool false, .slice none 0 0] from CB.set ((show CB _ (w.heap.size) 26 #[.bool on4, .slice oA4 ol4 oc4, .bool false, .slice none 0 0] from CB.set ((show CB _ (w.heap.size) 26 #[.bool on4, .slice none 0 0, .bool false, .slice none 0 0] from CB.set (Lr2_9) 0 (.bool on4))) 1 (.slice oA4 ol4 oc4))) 2 (.bool false))) (by simp [noInt_b, noInt_s]) 3 (.slice oB4 om_4 od4)))
 have Lr2_13 : CB w13 (w.heap.size) 26 #[.bool on4, .slice oA4 ol4 oc4, .bool false, .slice oB4 om_4 od4] := by rw [hW13]; exact (show CB _ (w.heap.size) 26 #[.bool on4, .slice oA4 ol4 oc4, .bool false, .slice oB4 om_4 od4] from CB.set ((show CB _ (w.heap.size) 26 #[.bool on4, .slice oA4 ol4 oc4, .bool false, .slice none 0 0] from CB.set ((show CB _ (w.heap.size) 26 #[.bool on4, .slice oA4 ol4 oc4, .bool false, .slice none 0 0] from CB.set ((show CB _ (w.heap.size) 26 #[.bool on4, .slice none 0 0, .bool false, .slice none 0 0] from CB.set (Lr2_9) 0 (.bool on4))) 1 (.slice oA4 ol4 oc4))) 2 (.bool false))) 3 (.slice oB4 om_4 od4))
 have HBP13 := Lib.hid (show Below w.heap.size w w13 by rw [hW13]; exact below_set1 (below_set1 (below_set1 (below_set1 (HB7.out) (by omega) _ _) (by omega) _ _) (by omega) _ _) (by omega) _ _)
 have zw13 : w13.heap.size = w5.heap.size := by rw [hW13]; simp [World.setCell]
 clear hW13
 have Hr_14 := Lib.hid (QV.soft Hr_4.out ((Soft.of B6.out).trans (S13.out)))
 exact bodyPost_ret (QB.ret1 rfl _ Lr2_13 rfl) rfl ⟨HBP13.out, _, rfl, Hr_14.out⟩
end Go.Proofs.YtioclokmbgmamaaGreatDoor
