/- Layer 04: Told (written by gen_qb.py). -/
import Derived.Test.YtioclokmbgmamaaGreatDoorQB
namespace Go.Proofs.YtioclokmbgmamaaGreatDoor
open Go Go.RowKit Dig
theorem cloneN_any (w : World) (v : Value) (l : List Nat) (h : RN w w.heap.size v l) (hl : l.length ≤ 100000) :
  Calls Tryz.prog 123 #[v] w fun e w' => Below w.heap.size w w' ∧ ∃ v', e = .returned v' ∧ RN w' w'.heap.size v' l :=
 (clone_size w v (ni l) h (by rw [ni_length]; omega)).mono fun _ _ ⟨hb, v', he, hv⟩ => ⟨hb, v', he, hv.ri⟩
theorem mkRat_nd {z : Int} {d : Nat} (hd : d ≠ 0) (hc : Nat.gcd z.natAbs d = 1) : (mkRat z d).num = z ∧ (mkRat z d).den = d := mkRat_low (by omega) hc
set_option maxRecDepth 100000 in
set_option maxHeartbeats 4000000 in
theorem Told_any (w : World) (v : Value) (z : Int) (d : Nat) (h : TV w w.heap.size v z d) (hd : d ≠ 0) (hc : Nat.gcd z.natAbs d = 1) (hl : (dig z.natAbs).length ≤ 100000) (hl' : (dig d).length ≤ 100000) :
  Calls Tryz.prog 67 #[v] w fun e w' => Below w.heap.size w w' ∧ RetQ w' (toldQ (mkRat z d)) e := by
 obtain ⟨n, A, l, c, A', l', c', rfl, Ha, Hd, hn⟩ := h
 have el := RN.len Ha; have el' := RN.len Hd
 have EL := Lib.hid el; have EL' := Lib.hid el'; clear el el'
 obtain ⟨hnum, hden⟩ := mkRat_nd hd hc
 obtain ⟨q, hq⟩ : ∃ q, q = mkRat z d := ⟨_, rfl⟩; rw [← hq] at hnum hden ⊢; clear hq hc
 obtain ⟨r, hr⟩ : ∃ r, r = toldQ q := ⟨_, rfl⟩; rw [← hr]
 have HL := Lib.hid hl; have HL' := Lib.hid hl'; clear hl hl'
 obtain ⟨w0, hw0⟩ : ∃ w0 : World, w0 = ((w.alloc (.cells #[.bool n, .slice A l c, .slice A' l' c'] 95)).alloc (.cells #[.bool false, .slice none 0 0, .bool false, .slice none 0 0] 26)) := ⟨_, rfl⟩
 have B0 := Lib.hid (show Below w.heap.size w w0 by rw [hw0]; (repeat' (first | exact Below.refl _ _ | refine Below.drew ?_ | refine Below.alloc ?_ (by first | exact Nat.le_refl _ | (simp; done) | (simp; omega)) _)))
 have z0 : w.heap.size + 2 ≤ w0.heap.size := by rw [hw0]; simp
 have La : CB w0 (w.heap.size) 95 #[.bool n, .slice A l c, .slice A' l' c'] := by rw [hw0]; have h := (CB.new w 95 #[.bool n, .slice A l c, .slice A' l' c']).alloc (.cells #[.bool false, .slice none 0 0, .bool false, .slice none 0 0] 26); simpa using h
 have Lo : CB w0 (w.heap.size + 1) 26 #[.bool false, .slice none 0 0, .bool false, .slice none 0 0] := by rw [hw0]; have h := CB.new (w.alloc (.cells #[.bool n, .slice A l c, .slice A' l' c'] 95)) 26 #[.bool false, .slice none 0 0, .bool false, .slice none 0 0]; simpa using h
 replace Ha := Lib.hid (RN.stepN Ha B0.out); replace Hd := Lib.hid (RN.stepN Hd B0.out)
 by_cases hov : l ≤ 600 ∧ l' ≤ 600
 ·have HR := Lib.hid (show r = (some q, 0) by rw [hr]; unfold toldQ; rw [if_pos (show fitQ q from ⟨by rw [hnum, ← EL.out]; omega, by rw [hden, ← EL'.out]; omega⟩)]); clear hr
  have hmx : ¬ (600 : Int) < max (l : Int) (l' : Int) := by omega
  cases n with
  | false =>
   have hz : 0 ≤ z := by rcases wsgn_cases hn with h | ⟨h, -⟩ | ⟨-, h⟩ <;> first | omega | cases h
   have HS := Lib.hid (show decide (z < 0) = false by rw [decide_eq_false]; omega)
   clear hn
   go_enter Tryz.func67, Tryz.ntmps67
   go_upto_region 2 with (fail)
   rw [← hw0]; clear hw0
   have q1_0 := La.cell 0 rfl
   have q1_1 := La.cell 1 rfl
   have q1_2 := La.cell 2 rfl
   have q1_lt := La.lt
   go_upto_region 4 with (fail)
   clear q1_0 q1_1 q1_2 q1_lt
   refine Flow.run [⟨0, 15, fun fv fw => fv = .pointer (some ⟨w.heap.size, 0, none⟩)⟩, ⟨1, 16, fun fv fw => fv = .pointer (some ⟨w.heap.size, 0, none⟩)⟩, ⟨2, 17, fun fv fw => fv = .bool false⟩, ⟨3, 18, fun fv fw => fv = .bool false⟩, ⟨4, 19, fun fv fw => True⟩, ⟨5, 20, fun fv fw => True⟩, ⟨6, 21, fun fv fw => True⟩, ⟨7, 22, fun fv fw => True⟩, ⟨8, 23, fun fv fw => True⟩, ⟨9, 24, fun fv fw => fv = .bool false⟩, ⟨10, 25, fun fv fw => fv = .pointer (some ⟨w.heap.size, 0, none⟩)⟩, ⟨11, 26, fun fv fw => fv = .pointer (some ⟨w.heap.size, 1, none⟩)⟩, ⟨12, 27, fun fv fw => fv = .slice A l c⟩, ⟨13, 28, fun fv fw => RN fw fw.heap.size fv (dig z.natAbs)⟩, ⟨14, 29, fun fv fw => LV fw fw.heap.size fv z⟩, ⟨15, 5, fun fv fw => ∃ b, fv = .pointer (some ⟨b, 0, none⟩) ∧ CB fw b 24 #[.bool false, .slice none 0 0]⟩] [] [15] 1 (by kernel_rfl) (by kernel_rfl) (by kernel_rfl) (fun _ _ _ _ _ h => h) ?_ ?_ ?_ ?_
   ·refine (all_cons (fun v w1 w2 h hb => h) (all_cons (fun v w1 w2 h hb => h) (all_cons (fun v w1 w2 h hb => h) (all_cons (fun v w1 w2 h hb => h) (all_cons (fun v w1 w2 h hb => h) (all_cons (fun v w1 w2 h hb => h) (all_cons (fun v w1 w2 h hb => h) (all_cons (fun v w1 w2 h hb => h) (all_cons (fun v w1 w2 h hb => h) (all_cons (fun v w1 w2 h hb => h) (all_cons (fun v w1 w2 h hb => h) (all_cons (fun v w1 w2 h hb => h) (all_cons (fun v w1 w2 h hb => h) (all_cons (fun v w1 w2 h hb => h.step hb) (all_cons (fun v w1 w2 h hb => h.step hb) (all_cons (fun v w1 w2 h hb => let ⟨b, e, h⟩ := h; ⟨b, e, h.step hb⟩) all_nil))))))))))))))))
   ·refine (all_cons ?_ (all_cons ?_ (all_cons ?_ (all_cons ?_ (all_cons ?_ (all_cons ?_ (all_cons ?_ (all_cons ?_ (all_cons ?_ (all_cons ?_ (all_cons ?_ (all_cons ?_ (all_cons ?_ (all_cons ?_ (all_cons ?_ (all_cons ?_ all_nil))))))))))))))))
    ·intro xs wk2 hBk hdep
     have HBk2 := Lib.hid hBk; have zk2 := hBk.size; clear hBk
     clear hdep
     refine wpOp_step (o := _) rfl (fun K hK => ?_)
     simp only [FL]
     go_simp
     refine hK _ _ ⟨.pointer (some ⟨w.heap.size, 0, none⟩), by kernel_rfl, Below.refl _ _, rfl, nF⟩
    ·intro xs wk3 hBk hdep
     have HBk3 := Lib.hid hBk; have zk3 := hBk.size; clear hBk
     have f0 : (xs 0) = .pointer (some ⟨w.heap.size, 0, none⟩) := hdep _ (m_ 0 rfl) (by kernel_rfl)
     clear hdep
     refine wpOp_step (o := _) rfl (fun K hK => ?_)
     simp only [FL]
     go_simp
     refine hK _ _ ⟨.pointer (some ⟨w.heap.size, 0, none⟩), by simp only [FL, f0], Below.refl _ _, rfl, nF⟩
    ·intro xs wk4 hBk hdep
     have HBk4 := Lib.hid hBk; have zk4 := hBk.size; clear hBk
     have f1 : (xs 1) = .pointer (some ⟨w.heap.size, 0, none⟩) := hdep _ (m_ 1 rfl) (by kernel_rfl)
     clear hdep
     refine wpOp_step (o := _) rfl (fun K hK => ?_)
     simp only [FL]
     have La_5 := CB.step La HBk4.out
     have q6_0 := La_5.cell 0 rfl
     have q6_1 := La_5.cell 1 rfl
     have q6_2 := La_5.cell 2 rfl
     have q6_lt := La_5.lt
     go_simp
     refine hK _ _ ⟨.bool false, by simp only [FL, f1], Below.refl _ _, rfl, nF⟩
    ·intro xs wk7 hBk hdep
     have HBk7 := Lib.hid hBk; have zk7 := hBk.size; clear hBk
     have f2 : (xs 2) = .bool false := hdep _ (m_ 2 rfl) (by kernel_rfl)
     clear hdep
     refine wpOp_step (o := _) rfl (fun K hK => ?_)
     simp only [FL]
     go_simp
     refine hK _ _ ⟨.bool false, by simp only [FL, f2], Below.refl _ _, rfl, nF⟩
    ·intro xs wk8 hBk hdep
     have HBk8 := Lib.hid hBk; have zk8 := hBk.size; clear hBk
     have f3 : (xs 3) = .bool false := hdep _ (m_ 3 rfl) (by kernel_rfl)
     clear hdep
     refine wpOp_step (o := ?go8) ?gho8 ?gh8
     case gho8 => exact rfl
     intro K hK
     simp only [FL]
     go_simp
     refine hK _ _ ⟨undef, by simp only [FL, f3], Below.refl _ _, trivial, nF⟩
    ·intro xs wk9 hBk hdep
     have HBk9 := Lib.hid hBk; have zk9 := hBk.size; clear hBk
     have f3 : (xs 3) = .bool false := hdep _ (m_ 3 rfl) (by kernel_rfl)
     clear hdep
     refine wpOp_step (o := ?go9) ?gho9 ?gh9
     case gho9 => exact rfl
     intro K hK
     simp only [FL]
     go_simp
     refine hK _ _ ⟨undef, by simp only [FL, f3], Below.refl _ _, trivial, nF⟩
    ·intro xs wk10 hBk hdep
     have HBk10 := Lib.hid hBk; have zk10 := hBk.size; clear hBk
     have f3 : (xs 3) = .bool false := hdep _ (m_ 3 rfl) (by kernel_rfl)
     clear hdep
     refine wpOp_step (o := ?go10) ?gho10 ?gh10
     case gho10 => exact rfl
     intro K hK
     simp only [FL]
     go_simp
     refine hK _ _ ⟨undef, by simp only [FL, f3], Below.refl _ _, trivial, nF⟩
    ·intro xs wk11 hBk hdep
     have HBk11 := Lib.hid hBk; have zk11 := hBk.size; clear hBk
     have f3 : (xs 3) = .bool false := hdep _ (m_ 3 rfl) (by kernel_rfl)
     clear hdep
     refine wpOp_step (o := ?go11) ?gho11 ?gh11
     case gho11 => exact rfl
     intro K hK
     simp only [FL]
     go_simp
     refine hK _ _ ⟨undef, by simp only [FL, f3], Below.refl _ _, trivial, nF⟩
    ·intro xs wk12 hBk hdep
     have HBk12 := Lib.hid hBk; have zk12 := hBk.size; clear hBk
     have f3 : (xs 3) = .bool false := hdep _ (m_ 3 rfl) (by kernel_rfl)
     clear hdep
     refine wpOp_step (o := ?go12) ?gho12 ?gh12
     case gho12 => exact rfl
     intro K hK
     simp only [FL]
     go_simp
     refine hK _ _ ⟨undef, by simp only [FL, f3], Below.refl _ _, trivial, nF⟩
    ·intro xs wk13 hBk hdep
     have HBk13 := Lib.hid hBk; have zk13 := hBk.size; clear hBk
     have f3 : (xs 3) = .bool false := hdep _ (m_ 3 rfl) (by kernel_rfl)
     clear hdep
     refine wpOp_step (o := _) rfl (fun K hK => ?_)
     simp only [FL]
     go_simp
     refine hK _ _ ⟨.bool false, by simp only [FL, f3], Below.refl _ _, rfl, nF⟩
    ·intro xs wk14 hBk hdep
     have HBk14 := Lib.hid hBk; have zk14 := hBk.size; clear hBk
     clear hdep
     refine wpOp_step (o := _) rfl (fun K hK => ?_)
     simp only [FL]
     go_simp
     refine hK _ _ ⟨.pointer (some ⟨w.heap.size, 0, none⟩), by kernel_rfl, Below.refl _ _, rfl, nF⟩
    ·intro xs wk15 hBk hdep
     have HBk15 := Lib.hid hBk; have zk15 := hBk.size; clear hBk
     have f10 : (xs 10) = .pointer (some ⟨w.heap.size, 0, none⟩) := hdep _ (m_ 10 rfl) (by kernel_rfl)
     clear hdep
     refine wpOp_step (o := _) rfl (fun K hK => ?_)
     simp only [FL]
     go_simp
     refine hK _ _ ⟨.pointer (some ⟨w.heap.size, 1, none⟩), by simp only [FL, f10], Below.refl _ _, rfl, nF⟩
    ·intro xs wk16 hBk hdep
     have HBk16 := Lib.hid hBk; have zk16 := hBk.size; clear hBk
     have f11 : (xs 11) = .pointer (some ⟨w.heap.size, 1, none⟩) := hdep _ (m_ 11 rfl) (by kernel_rfl)
     clear hdep
     refine wpOp_step (o := _) rfl (fun K hK => ?_)
     simp only [FL]
     have La_17 := CB.step La HBk16.out
     have q18_0 := La_17.cell 0 rfl
     have q18_1 := La_17.cell 1 rfl
     have q18_2 := La_17.cell 2 rfl
     have q18_lt := La_17.lt
     go_simp
     refine hK _ _ ⟨.slice A l c, by simp only [FL, f11], Below.refl _ _, rfl, nF⟩
    ·intro xs wk19 hBk hdep
     have HBk19 := Lib.hid hBk; have zk19 := hBk.size; clear hBk
     have f12 : (xs 12) = .slice A l c := hdep _ (m_ 12 rfl) (by kernel_rfl)
     clear hdep
     refine wpOp_step (o := _) rfl (fun K hK => ?_)
     simp only [FL]
     go_simp
     have Ha_20 := Lib.hid (RN.step Ha.out HBk19.out)
     (with_reducible refine (cloneN_any _ _ _ Ha_20.out (by have := HL.out; omega)).mono ?_)
     rintro e wc21 ⟨hb21, v21, rfl, hv21⟩
     refine hK _ _ ⟨v21, by simp only [FL, f12], hb21, hv21, nF⟩
    ·intro xs wk22 hBk hdep
     have HBk22 := Lib.hid hBk; have zk22 := hBk.size; clear hBk
     have f13 : RN wk22 wk22.heap.size (xs 13) (dig z.natAbs) := hdep _ (m_ 13 rfl) (by kernel_rfl)
     have f9 : (xs 9) = .bool false := hdep _ (m_ 9 rfl) (by kernel_rfl)
     clear hdep
     refine wpOp_step (o := _) rfl (fun K hK => ?_)
     simp only [FL]
     obtain ⟨A13, c13, hx13, -⟩ := RN.cell f13; have r13 := f13; rw [hx13] at r13 ⊢
     go_simp
     refine hK _ _ ⟨.agg #[.bool false, .slice A13 (dig (z).natAbs).length c13], by simp only [FL, f9, hx13], Below.refl _ _, ⟨_, by rw [HS.out], r13⟩, nF⟩
    ·intro xs wk23 hBk hdep
     have HBk23 := Lib.hid hBk; have zk23 := hBk.size; clear hBk
     clear hdep
     refine wpOp_step (o := _) rfl (fun K hK => ?_)
     simp only [FL]
     go_simp
     refine hK _ _ ⟨.pointer (some ⟨wk23.heap.size, 0, none⟩), by kernel_rfl, (Below.refl _ _).alloc (Nat.le_refl _) _, ⟨_, rfl, CB.new _ _ _⟩, fun _ => ⟨_, rfl, Nat.le_refl _, by simp⟩⟩
   ·exact all_nil
   ·intro xs wf24 hbf hf hn hd
    have f0 : (xs 0) = .pointer (some ⟨w.heap.size, 0, none⟩) := hf _ (m_ 0 rfl)
    have f1 : (xs 1) = .pointer (some ⟨w.heap.size, 0, none⟩) := hf _ (m_ 1 rfl)
    have f2 : (xs 2) = .bool false := hf _ (m_ 2 rfl)
    have f3 : (xs 3) = .bool false := hf _ (m_ 3 rfl)
    have f4 : True := hf _ (m_ 4 rfl)
    have f5 : True := hf _ (m_ 5 rfl)
    have f6 : True := hf _ (m_ 6 rfl)
    have f7 : True := hf _ (m_ 7 rfl)
    have f8 : True := hf _ (m_ 8 rfl)
    have f9 : (xs 9) = .bool false := hf _ (m_ 9 rfl)
    have f10 : (xs 10) = .pointer (some ⟨w.heap.size, 0, none⟩) := hf _ (m_ 10 rfl)
    have f11 : (xs 11) = .pointer (some ⟨w.heap.size, 1, none⟩) := hf _ (m_ 11 rfl)
    have f12 : (xs 12) = .slice A l c := hf _ (m_ 12 rfl)
    have f13 : RN wf24 wf24.heap.size (xs 13) (dig z.natAbs) := hf _ (m_ 13 rfl)
    have f14 : LV wf24 wf24.heap.size (xs 14) z := hf _ (m_ 14 rfl)
    have f15 : ∃ b, (xs 15) = .pointer (some ⟨b, 0, none⟩) ∧ CB wf24 b 24 #[.bool false, .slice none 0 0] := hf _ (m_ 15 rfl)
    have n15 := hn 15 (by decide)
    clear hf hn hd
    simp only [FL]
    have B25 := Lib.hid hbf
    have z25 := B25.out.size
    have HB26 := Lib.hid (B0.out.trans (B25.out.mono B0.out.size))
    clear hbf
    generalize xs 0 = x0 at *
    generalize xs 1 = x1 at *
    generalize xs 2 = x2 at *
    generalize xs 3 = x3 at *
    generalize xs 4 = x4 at *
    generalize xs 5 = x5 at *
    generalize xs 6 = x6 at *
    generalize xs 7 = x7 at *
    generalize xs 8 = x8 at *
    generalize xs 9 = x9 at *
    generalize xs 10 = x10 at *
    generalize xs 11 = x11 at *
    generalize xs 12 = x12 at *
    generalize xs 13 = x13 at *
    generalize xs 14 = x14 at *
    generalize xs 15 = x15 at *
    obtain rfl := f0
    obtain rfl := f1
    obtain rfl := f2
    obtain rfl := f3
    clear f4
    clear f5
    clear f6
    clear f7
    clear f8
    obtain rfl := f9
    obtain rfl := f10
    obtain rfl := f11
    obtain rfl := f12
    clear f13
    obtain ⟨n27, Ad27, l27, c27, rfl, hv27⟩ := f14.opened
    have Hn_27 := Lib.hid hv27
    clear f14 hv27
    obtain ⟨bn28_N, rfl, Ln29_N⟩ := f15
    have hge_bn28_N := Lib.hid (show w0.heap.size ≤ bn28_N by obtain ⟨b', e, h, -⟩ := n15; injection e with e; injection e with e; injection e with e _ _; omega)
    clear n15
    have hgb_bn28_N := Ln29_N.lt; have hgc_bn28_N := hge_bn28_N.out
    have q30_0 := Ln29_N.cell 0 rfl
    have q30_1 := Ln29_N.cell 1 rfl
    have q30_lt := Ln29_N.lt
    have q31_0 := Ln29_N.frozen 0
    have q31_1 := Ln29_N.frozen 1
    have q31_lt := Ln29_N.lt
    refine Early.next (i := 16) (by kernel_rfl) rfl (fun K hK => ?_)
    go_simp
    refine hK _ _ (fun _ => trivial) ?_
    clear hK K
    (try simp only [Act.put, List.setIfInBounds_toArray, List.set_cons_zero, List.set_cons_succ])
    clear q30_0 q30_1 q30_lt q31_0 q31_1 q31_lt
    refine Early.done (by kernel_rfl) ?_ _
    (try simp only [Exit.then])
    have La_32 := CB.step La B25.out
    have Lo_33 := CB.step Lo B25.out
    obtain ⟨w34, hW34⟩ : ∃ w34 : World, w34 = ((wf24.setCell ⟨bn28_N, 0, none⟩ (.bool n27)).setCell ⟨bn28_N, 1, none⟩ (.slice Ad27 l27 c27)) := ⟨_, rfl⟩
    rw [← hW34]
    have S34 := Lib.hid (show Soft wf24 w34 by rw [hW34]; exact (CB.soft1 (Ln29_N) (by simp [noInt_b, noInt_s]) 0 (.bool n27)).trans (CB.soft1 ((show CB _ (bn28_N) 24 #[.bool n27, .slice none 0 0] from CB.set (Ln29_N) 0 (.bool n27))) (by simp [noInt_b, noInt_s]) 1 (.slice Ad27 l27 c27)))
    have La_34 : CB w34 (w.heap.size) 95 #[.bool false, .slice A l c, .slice A' l' c'] := by rw [hW34]; exact CB.far (p := ⟨bn28_N, 1, none⟩) (CB.far (p := ⟨bn28_N, 0, none⟩) (La_32) (show w.heap.size ≠ bn28_N from by omega) _) (show w.heap.size ≠ bn28_N from by omega) _
    have Lo_34 : CB w34 (w.heap.size + 1) 26 #[.bool false, .slice none 0 0, .bool false, .slice none 0 0] := by rw [hW34]; exact CB.far (p := ⟨bn28_N, 1, none⟩) (CB.far (p := ⟨bn28_N, 0, none⟩) (Lo_33) (show w.heap.size + 1 ≠ bn28_N from by omega) _) (show w.heap.size + 1 ≠ bn28_N from by omega) _
    have LN_34 : CB w34 (bn28_N) 24 #[.bool n27, .slice Ad27 l27 c27] := by rw [hW34]; exact (show CB _ (bn28_N) 24 #[.bool n27, .slice Ad27 l27 c27] from CB.set ((show CB _ (bn28_N) 24 #[.bool n27, .slice none 0 0] from CB.set (Ln29_N) 0 (.bool n27))) 1 (.slice Ad27 l27 c27))
    have HBP34 := Lib.hid (show Below w.heap.size w w34 by rw [hW34]; exact below_set1 (below_set1 (HB26.out) (by omega) _ _) (by omega) _ _)
    have zw34 : w34.heap.size = wf24.heap.size := by rw [hW34]; simp [World.setCell]
    clear hW34
    go_upto_region 5 with (fail)
    have Hn_35 := Lib.hid (LV.soft Hn_27.out (S34.out))
    have HN5 := Lib.hid (show RN w34 w34.heap.size (.slice Ad27 l27 c27) (dig z.natAbs) ∧ n27 = decide (z < 0) from ⟨(LV.is Hn_35.out).2.2, (LV.is Hn_35.out).1⟩)
    refine Flow.run [⟨0, 30, fun fv fw => fv = .agg #[.bool n27, .slice Ad27 l27 c27]⟩, ⟨1, 31, fun fv fw => fv = .pointer (some ⟨w.heap.size, 2, none⟩)⟩, ⟨2, 32, fun fv fw => fv = .slice A' l' c'⟩, ⟨3, 33, fun fv fw => RN fw fw.heap.size fv (dig d)⟩, ⟨4, 34, fun fv fw => ∃ A l c, fv = .agg #[.bool false, .slice A l c] ∧ RN fw fw.heap.size (.slice A l c) (dig d)⟩, ⟨5, 35, fun fv fw => QV fw fw.heap.size fv q⟩, ⟨6, 36, fun fv fw => fv = .int .i64 0⟩, ⟨7, 37, fun fv fw => ∃ u, fv = .tuple #[u, .int .i64 0] ∧ QO fw fw.heap.size u (some q)⟩, ⟨8, 38, fun fv fw => QO fw fw.heap.size fv (some q)⟩, ⟨9, 39, fun fv fw => fv = .int .i64 0⟩] [] [] 2 (by kernel_rfl) (by kernel_rfl) (by kernel_rfl) (fun _ _ _ _ _ h => h) ?_ ?_ ?_ ?_
    ·refine (all_cons (fun v w1 w2 h hb => h) (all_cons (fun v w1 w2 h hb => h) (all_cons (fun v w1 w2 h hb => h) (all_cons (fun v w1 w2 h hb => h.step hb) (all_cons (fun v w1 w2 h hb => let ⟨A, l, c, e, h⟩ := h; ⟨A, l, c, e, h.stepN hb⟩) (all_cons (fun v w1 w2 h hb => h.step hb) (all_cons (fun v w1 w2 h hb => h) (all_cons (fun v w1 w2 h hb => let ⟨u, e, h⟩ := h; ⟨u, e, QO.step h hb⟩) (all_cons (fun v w1 w2 h hb => (show QO w2 w2.heap.size v (some q) from QO.step (o := (some q)) h hb)) (all_cons (fun v w1 w2 h hb => h) all_nil))))))))))
    ·refine (all_cons ?_ (all_cons ?_ (all_cons ?_ (all_cons ?_ (all_cons ?_ (all_cons ?_ (all_cons ?_ (all_cons ?_ (all_cons ?_ (all_cons ?_ all_nil))))))))))
     ·intro xs wk36 hBk hdep
      have HBk36 := Lib.hid hBk; have zk36 := hBk.size; clear hBk
      clear hdep
      refine wpOp_step (o := _) rfl (fun K hK => ?_)
      simp only [FL]
      have LN_37 := CB.step LN_34 HBk36.out
      have q38_0 := LN_37.cell 0 rfl
      have q38_1 := LN_37.cell 1 rfl
      have q38_lt := LN_37.lt
      go_simp
      refine hK _ _ ⟨.agg #[.bool n27, .slice Ad27 l27 c27], by kernel_rfl, Below.refl _ _, rfl, nF⟩
     ·intro xs wk39 hBk hdep
      have HBk39 := Lib.hid hBk; have zk39 := hBk.size; clear hBk
      clear hdep
      refine wpOp_step (o := _) rfl (fun K hK => ?_)
      simp only [FL]
      go_simp
      refine hK _ _ ⟨.pointer (some ⟨w.heap.size, 2, none⟩), by kernel_rfl, Below.refl _ _, rfl, nF⟩
     ·intro xs wk40 hBk hdep
      have HBk40 := Lib.hid hBk; have zk40 := hBk.size; clear hBk
      have f1 : (xs 1) = .pointer (some ⟨w.heap.size, 2, none⟩) := hdep _ (m_ 1 rfl) (by kernel_rfl)
      clear hdep
      refine wpOp_step (o := _) rfl (fun K hK => ?_)
      simp only [FL]
      have La_41 := CB.step La_34 HBk40.out
      have q42_0 := La_41.cell 0 rfl
      have q42_1 := La_41.cell 1 rfl
      have q42_2 := La_41.cell 2 rfl
      have q42_lt := La_41.lt
      go_simp
      refine hK _ _ ⟨.slice A' l' c', by simp only [FL, f1], Below.refl _ _, rfl, nF⟩
     ·intro xs wk43 hBk hdep
      have HBk43 := Lib.hid hBk; have zk43 := hBk.size; clear hBk
      have f2 : (xs 2) = .slice A' l' c' := hdep _ (m_ 2 rfl) (by kernel_rfl)
      clear hdep
      refine wpOp_step (o := _) rfl (fun K hK => ?_)
      simp only [FL]
      go_simp
      have Hd_44 := Lib.hid (RN.soft Hd.out (((Soft.of B25.out).trans (S34.out)).trans (Soft.of HBk43.out)))
      (with_reducible refine (cloneN_any _ _ _ Hd_44.out (by have := HL'.out; omega)).mono ?_)
      rintro e wc45 ⟨hb45, v45, rfl, hv45⟩
      refine hK _ _ ⟨v45, by simp only [FL, f2], hb45, hv45, nF⟩
     ·intro xs wk46 hBk hdep
      have HBk46 := Lib.hid hBk; have zk46 := hBk.size; clear hBk
      have f3 : RN wk46 wk46.heap.size (xs 3) (dig d) := hdep _ (m_ 3 rfl) (by kernel_rfl)
      clear hdep
      refine wpOp_step (o := _) rfl (fun K hK => ?_)
      simp only [FL]
      obtain ⟨A3, c3, hx3, -⟩ := RN.cell f3; have r3 := f3; rw [hx3] at r3 ⊢
      go_simp
      refine hK _ _ ⟨.agg #[.bool false, .slice A3 (dig d).length c3], by simp only [FL, hx3], Below.refl _ _, ⟨_, _, _, rfl, r3⟩, nF⟩
     ·intro xs wk47 hBk hdep
      have HBk47 := Lib.hid hBk; have zk47 := hBk.size; clear hBk
      have f0 : (xs 0) = .agg #[.bool n27, .slice Ad27 l27 c27] := hdep _ (m_ 0 rfl) (by kernel_rfl)
      have f4 : ∃ A l c, (xs 4) = .agg #[.bool false, .slice A l c] ∧ RN wk47 wk47.heap.size (.slice A l c) (dig d) := hdep _ (m_ 4 rfl) (by kernel_rfl)
      clear hdep
      refine wpOp_step (o := _) rfl (fun K hK => ?_)
      simp only [FL]
      obtain ⟨Bd, ud, cd, hu, rd⟩ := f4; rw [hu]
      have rn48 := RN.stepN HN5.out.1 HBk47.out
      go_simp
      refine hK _ _ ⟨.agg #[.bool n27, .slice Ad27 l27 c27, .bool false, .slice Bd ud cd], by simp only [FL, f0, hu], Below.refl _ _, ⟨_, _, _, _, _, _, _, rfl, by rw [hnum]; exact rn48, by rw [hden]; exact rd, by rw [hnum]; exact HN5.out.2⟩, nF⟩
     ·intro xs wk49 hBk hdep
      have HBk49 := Lib.hid hBk; have zk49 := hBk.size; clear hBk
      clear hdep
      refine wpOp_step (o := _) rfl (fun K hK => ?_)
      simp only [FL]
      go_simp
      refine hK _ _ ⟨.int .i64 0, by kernel_rfl, Below.refl _ _, rfl, nF⟩
     ·intro xs wk50 hBk hdep
      have HBk50 := Lib.hid hBk; have zk50 := hBk.size; clear hBk
      have f5 : QV wk50 wk50.heap.size (xs 5) q := hdep _ (m_ 5 rfl) (by kernel_rfl)
      have f6 : (xs 6) = .int .i64 0 := hdep _ (m_ 6 rfl) (by kernel_rfl)
      clear hdep
      refine wpOp_step (o := _) rfl (fun K hK => ?_)
      simp only [FL]
      obtain ⟨qn, qA, ql, qc, qB, qm, qd, hu, ra, rb, rc⟩ := f5; rw [hu]; have RC := Lib.hid rc; clear rc
      go_simp
      (with_reducible refine (madeQ_yes _ qn false qA qB ql qc qm qd).mono ?_)
      rintro e wc51 ⟨hb51, rfl⟩
      refine hK _ _ ⟨.tuple #[.agg #[.bool qn, .slice qA ql qc, .bool false, .slice qB qm qd], .int .i64 0], by simp only [FL, f6, hu], hb51, ⟨_, rfl, QV.step ⟨_, _, _, _, _, _, _, rfl, ra, rb, RC.out⟩ hb51⟩, nF⟩
     ·intro xs wk52 hBk hdep
      have HBk52 := Lib.hid hBk; have zk52 := hBk.size; clear hBk
      have f7 : ∃ u, (xs 7) = .tuple #[u, .int .i64 0] ∧ QO wk52 wk52.heap.size u (some q) := hdep _ (m_ 7 rfl) (by kernel_rfl)
      clear hdep
      refine wpOp_step (o := _) rfl (fun K hK => ?_)
      simp only [FL]
      obtain ⟨u, hu, hl⟩ := f7; rw [hu]
      go_simp
      refine hK _ _ ⟨u, by simp only [FL, hu], Below.refl _ _, hl, nF⟩
     ·intro xs wk53 hBk hdep
      have HBk53 := Lib.hid hBk; have zk53 := hBk.size; clear hBk
      have f7 : ∃ u, (xs 7) = .tuple #[u, .int .i64 0] ∧ QO wk53 wk53.heap.size u (some q) := hdep _ (m_ 7 rfl) (by kernel_rfl)
      clear hdep
      refine wpOp_step (o := _) rfl (fun K hK => ?_)
      simp only [FL]
      obtain ⟨u, hu, -⟩ := f7; rw [hu]
      go_simp
      refine hK _ _ ⟨.int .i64 0, by simp only [FL, hu], Below.refl _ _, rfl, nF⟩
    ·exact all_nil
    ·intro xs wf54 hbf hf hn hd
     have f0 : (xs 0) = .agg #[.bool n27, .slice Ad27 l27 c27] := hf _ (m_ 0 rfl)
     have f1 : (xs 1) = .pointer (some ⟨w.heap.size, 2, none⟩) := hf _ (m_ 1 rfl)
     have f2 : (xs 2) = .slice A' l' c' := hf _ (m_ 2 rfl)
     have f3 : RN wf54 wf54.heap.size (xs 3) (dig d) := hf _ (m_ 3 rfl)
     have f4 : ∃ A l c, (xs 4) = .agg #[.bool false, .slice A l c] ∧ RN wf54 wf54.heap.size (.slice A l c) (dig d) := hf _ (m_ 4 rfl)
     have f5 : QV wf54 wf54.heap.size (xs 5) q := hf _ (m_ 5 rfl)
     have f6 : (xs 6) = .int .i64 0 := hf _ (m_ 6 rfl)
     have f7 : ∃ u, (xs 7) = .tuple #[u, .int .i64 0] ∧ QO wf54 wf54.heap.size u (some q) := hf _ (m_ 7 rfl)
     have f8 : QO wf54 wf54.heap.size (xs 8) (some q) := hf _ (m_ 8 rfl)
     have f9 : (xs 9) = .int .i64 0 := hf _ (m_ 9 rfl)
     clear hf hn hd
     simp only [FL]
     have B55 := Lib.hid hbf
     have z55 := B55.out.size
     have HB56 := Lib.hid (HBP34.out.trans (B55.out.mono HBP34.out.size))
     clear hbf
     generalize xs 0 = x0 at *
     generalize xs 1 = x1 at *
     generalize xs 2 = x2 at *
     generalize xs 3 = x3 at *
     generalize xs 4 = x4 at *
     generalize xs 5 = x5 at *
     generalize xs 6 = x6 at *
     generalize xs 7 = x7 at *
     generalize xs 8 = x8 at *
     generalize xs 9 = x9 at *
     obtain rfl := f0
     obtain rfl := f1
     obtain rfl := f2
     clear f3
     clear f4
     clear f5
     obtain rfl := f6
     clear f7
     obtain ⟨on57, oA57, ol57, oc57, oB57, om_57, od57, rfl, ha57, hb57, hc57⟩ := (show QV wf54 wf54.heap.size x8 q from f8)
     have Hq_57 := Lib.hid (show QV wf54 wf54.heap.size (.agg #[.bool on57, .slice oA57 ol57 oc57, .bool false, .slice oB57 om_57 od57]) q from ⟨_, _, _, _, _, _, _, rfl, ha57, hb57, hc57⟩)
     clear ha57 hb57 hc57
     obtain rfl := f9
     have Lo_58 := CB.step Lo_34 B55.out
     have q59_0 := Lo_58.cell 0 rfl
     have q59_1 := Lo_58.cell 1 rfl
     have q59_2 := Lo_58.cell 2 rfl
     have q59_3 := Lo_58.cell 3 rfl
     have q59_lt := Lo_58.lt
     have q60_0 := Lo_58.frozen 0
     have q60_1 := Lo_58.frozen 1
     have q60_2 := Lo_58.frozen 2
     have q60_3 := Lo_58.frozen 3
     have q60_lt := Lo_58.lt
     refine Early.next (i := 10) (by kernel_rfl) rfl (fun K hK => ?_)
     go_simp
     refine hK _ _ (fun _ => trivial) ?_
     clear hK K
     (try simp only [Act.put, List.setIfInBounds_toArray, List.set_cons_zero, List.set_cons_succ])
     clear q59_0 q59_1 q59_2 q59_3 q59_lt q60_0 q60_1 q60_2 q60_3 q60_lt
     refine Early.next (i := 11) (by kernel_rfl) rfl (fun K hK => ?_)
     go_simp
     refine hK _ _ (fun _ => trivial) ?_
     clear hK K
     (try simp only [Act.put, List.setIfInBounds_toArray, List.set_cons_zero, List.set_cons_succ])
     refine Early.done (by kernel_rfl) ?_ _
     (try simp only [Exit.then])
     go_wp2
     exact QB.fin rfl Lo_58 (by simp [noInt_b, noInt_s]) HB56.out (by omega) (by rw [HR.out]; exact Hq_57.out) rfl (by rw [HR.out]; rfl)
  | true =>
   have hzl : z < 0 ↔ 0 < l := by
    constructor
    ·intro h; rw [EL.out]; have := dig_len_pos (n := z.natAbs) (by omega); omega
    ·intro h; rcases wsgn_cases hn with h1 | ⟨-, h1⟩ | ⟨h1, -⟩
     ·rw [EL.out, h1, show (0 : Int).natAbs = 0 from rfl, dig_zero] at h; simp at h
     ·exact h1
     ·cases h1
   have HS := Lib.hid (show decide (z < 0) = (decide (0 < l)) by exact decide_eq_decide.2 hzl)
   clear hn hzl
   go_enter Tryz.func67, Tryz.ntmps67
   go_upto_region 2 with (fail)
   rw [← hw0]; clear hw0
   have q61_0 := La.cell 0 rfl
   have q61_1 := La.cell 1 rfl
   have q61_2 := La.cell 2 rfl
   have q61_lt := La.lt
   go_upto_region 4 with (fail)
   clear q61_0 q61_1 q61_2 q61_lt
   refine Flow.run [⟨0, 15, fun fv fw => fv = .pointer (some ⟨w.heap.size, 0, none⟩)⟩, ⟨1, 16, fun fv fw => fv = .pointer (some ⟨w.heap.size, 0, none⟩)⟩, ⟨2, 17, fun fv fw => fv = .bool true⟩, ⟨3, 18, fun fv fw => fv = .bool true⟩, ⟨4, 19, fun fv fw => fv = .pointer (some ⟨w.heap.size, 0, none⟩)⟩, ⟨5, 20, fun fv fw => fv = .pointer (some ⟨w.heap.size, 1, none⟩)⟩, ⟨6, 21, fun fv fw => fv = .slice A l c⟩, ⟨7, 22, fun fv fw => fv = .int .i64 (l : Int)⟩, ⟨8, 23, fun fv fw => fv = .bool (decide (0 < l))⟩, ⟨9, 24, fun fv fw => fv = .bool (decide (0 < l))⟩, ⟨10, 25, fun fv fw => fv = .pointer (some ⟨w.heap.size, 0, none⟩)⟩, ⟨11, 26, fun fv fw => fv = .pointer (some ⟨w.heap.size, 1, none⟩)⟩, ⟨12, 27, fun fv fw => fv = .slice A l c⟩, ⟨13, 28, fun fv fw => RN fw fw.heap.size fv (dig z.natAbs)⟩, ⟨14, 29, fun fv fw => LV fw fw.heap.size fv z⟩, ⟨15, 5, fun fv fw => ∃ b, fv = .pointer (some ⟨b, 0, none⟩) ∧ CB fw b 24 #[.bool false, .slice none 0 0]⟩] [] [15] 1 (by kernel_rfl) (by kernel_rfl) (by kernel_rfl) (fun _ _ _ _ _ h => h) ?_ ?_ ?_ ?_
   ·refine (all_cons (fun v w1 w2 h hb => h) (all_cons (fun v w1 w2 h hb => h) (all_cons (fun v w1 w2 h hb => h) (all_cons (fun v w1 w2 h hb => h) (all_cons (fun v w1 w2 h hb => h) (all_cons (fun v w1 w2 h hb => h) (all_cons (fun v w1 w2 h hb => h) (all_cons (fun v w1 w2 h hb => h) (all_cons (fun v w1 w2 h hb => h) (all_cons (fun v w1 w2 h hb => h) (all_cons (fun v w1 w2 h hb => h) (all_cons (fun v w1 w2 h hb => h) (all_cons (fun v w1 w2 h hb => h) (all_cons (fun v w1 w2 h hb => h.step hb) (all_cons (fun v w1 w2 h hb => h.step hb) (all_cons (fun v w1 w2 h hb => let ⟨b, e, h⟩ := h; ⟨b, e, h.step hb⟩) all_nil))))))))))))))))
   ·refine (all_cons ?_ (all_cons ?_ (all_cons ?_ (all_cons ?_ (all_cons ?_ (all_cons ?_ (all_cons ?_ (all_cons ?_ (all_cons ?_ (all_cons ?_ (all_cons ?_ (all_cons ?_ (all_cons ?_ (all_cons ?_ (all_cons ?_ (all_cons ?_ all_nil))))))))))))))))
    ·intro xs wk62 hBk hdep
     have HBk62 := Lib.hid hBk; have zk62 := hBk.size; clear hBk
     clear hdep
     refine wpOp_step (o := _) rfl (fun K hK => ?_)
     simp only [FL]
     go_simp
     refine hK _ _ ⟨.pointer (some ⟨w.heap.size, 0, none⟩), by kernel_rfl, Below.refl _ _, rfl, nF⟩
    ·intro xs wk63 hBk hdep
     have HBk63 := Lib.hid hBk; have zk63 := hBk.size; clear hBk
     have f0 : (xs 0) = .pointer (some ⟨w.heap.size, 0, none⟩) := hdep _ (m_ 0 rfl) (by kernel_rfl)
     clear hdep
     refine wpOp_step (o := _) rfl (fun K hK => ?_)
     simp only [FL]
     go_simp
     refine hK _ _ ⟨.pointer (some ⟨w.heap.size, 0, none⟩), by simp only [FL, f0], Below.refl _ _, rfl, nF⟩
    ·intro xs wk64 hBk hdep
     have HBk64 := Lib.hid hBk; have zk64 := hBk.size; clear hBk
     have f1 : (xs 1) = .pointer (some ⟨w.heap.size, 0, none⟩) := hdep _ (m_ 1 rfl) (by kernel_rfl)
     clear hdep
     refine wpOp_step (o := _) rfl (fun K hK => ?_)
     simp only [FL]
     have La_65 := CB.step La HBk64.out
     have q66_0 := La_65.cell 0 rfl
     have q66_1 := La_65.cell 1 rfl
     have q66_2 := La_65.cell 2 rfl
     have q66_lt := La_65.lt
     go_simp
     refine hK _ _ ⟨.bool true, by simp only [FL, f1], Below.refl _ _, rfl, nF⟩
    ·intro xs wk67 hBk hdep
     have HBk67 := Lib.hid hBk; have zk67 := hBk.size; clear hBk
     have f2 : (xs 2) = .bool true := hdep _ (m_ 2 rfl) (by kernel_rfl)
     clear hdep
     refine wpOp_step (o := _) rfl (fun K hK => ?_)
     simp only [FL]
     go_simp
     refine hK _ _ ⟨.bool true, by simp only [FL, f2], Below.refl _ _, rfl, nF⟩
    ·intro xs wk68 hBk hdep
     have HBk68 := Lib.hid hBk; have zk68 := hBk.size; clear hBk
     have f3 : (xs 3) = .bool true := hdep _ (m_ 3 rfl) (by kernel_rfl)
     clear hdep
     refine wpOp_step (o := ?go68) ?gho68 ?gh68
     case gho68 => exact rfl
     intro K hK
     simp only [FL]
     go_simp
     refine hK _ _ ⟨.pointer (some ⟨w.heap.size, 0, none⟩), by simp only [FL, f3], Below.refl _ _, rfl, nF⟩
    ·intro xs wk69 hBk hdep
     have HBk69 := Lib.hid hBk; have zk69 := hBk.size; clear hBk
     have f3 : (xs 3) = .bool true := hdep _ (m_ 3 rfl) (by kernel_rfl)
     have f4 : (xs 4) = .pointer (some ⟨w.heap.size, 0, none⟩) := hdep _ (m_ 4 rfl) (by kernel_rfl)
     clear hdep
     refine wpOp_step (o := ?go69) ?gho69 ?gh69
     case gho69 => exact rfl
     intro K hK
     simp only [FL]
     go_simp
     refine hK _ _ ⟨.pointer (some ⟨w.heap.size, 1, none⟩), by simp only [FL, f3, f4], Below.refl _ _, rfl, nF⟩
    ·intro xs wk70 hBk hdep
     have HBk70 := Lib.hid hBk; have zk70 := hBk.size; clear hBk
     have f3 : (xs 3) = .bool true := hdep _ (m_ 3 rfl) (by kernel_rfl)
     have f5 : (xs 5) = .pointer (some ⟨w.heap.size, 1, none⟩) := hdep _ (m_ 5 rfl) (by kernel_rfl)
     clear hdep
     refine wpOp_step (o := ?go70) ?gho70 ?gh70
     case gho70 => exact rfl
     intro K hK
     simp only [FL]
     have La_71 := CB.step La HBk70.out
     have q72_0 := La_71.cell 0 rfl
     have q72_1 := La_71.cell 1 rfl
     have q72_2 := La_71.cell 2 rfl
     have q72_lt := La_71.lt
     go_simp
     refine hK _ _ ⟨.slice A l c, by simp only [FL, f3, f5], Below.refl _ _, rfl, nF⟩
    ·intro xs wk73 hBk hdep
     have HBk73 := Lib.hid hBk; have zk73 := hBk.size; clear hBk
     have f3 : (xs 3) = .bool true := hdep _ (m_ 3 rfl) (by kernel_rfl)
     have f6 : (xs 6) = .slice A l c := hdep _ (m_ 6 rfl) (by kernel_rfl)
     clear hdep
     refine wpOp_step (o := ?go73) ?gho73 ?gh73
     case gho73 => exact rfl
     intro K hK
     simp only [FL]
     go_simp
     refine hK _ _ ⟨.int .i64 (l : Int), by simp only [FL, f3, f6], Below.refl _ _, rfl, nF⟩
    ·intro xs wk74 hBk hdep
     have HBk74 := Lib.hid hBk; have zk74 := hBk.size; clear hBk
     have f3 : (xs 3) = .bool true := hdep _ (m_ 3 rfl) (by kernel_rfl)
     have f7 : (xs 7) = .int .i64 (l : Int) := hdep _ (m_ 7 rfl) (by kernel_rfl)
     clear hdep
     refine wpOp_step (o := ?go74) ?gho74 ?gh74
     case gho74 => exact rfl
     intro K hK
     simp only [FL]
     go_simp
     refine hK _ _ ⟨.bool (decide (0 < l)), by simp only [FL, f3, f7], Below.refl _ _, rfl, nF⟩
    ·intro xs wk75 hBk hdep
     have HBk75 := Lib.hid hBk; have zk75 := hBk.size; clear hBk
     have f3 : (xs 3) = .bool true := hdep _ (m_ 3 rfl) (by kernel_rfl)
     have f8 : (xs 8) = .bool (decide (0 < l)) := hdep _ (m_ 8 rfl) (by kernel_rfl)
     clear hdep
     refine wpOp_step (o := _) rfl (fun K hK => ?_)
     simp only [FL]
     go_simp
     refine hK _ _ ⟨.bool (decide (0 < l)), by simp only [FL, f3, f8], Below.refl _ _, rfl, nF⟩
    ·intro xs wk76 hBk hdep
     have HBk76 := Lib.hid hBk; have zk76 := hBk.size; clear hBk
     clear hdep
     refine wpOp_step (o := _) rfl (fun K hK => ?_)
     simp only [FL]
     go_simp
     refine hK _ _ ⟨.pointer (some ⟨w.heap.size, 0, none⟩), by kernel_rfl, Below.refl _ _, rfl, nF⟩
    ·intro xs wk77 hBk hdep
     have HBk77 := Lib.hid hBk; have zk77 := hBk.size; clear hBk
     have f10 : (xs 10) = .pointer (some ⟨w.heap.size, 0, none⟩) := hdep _ (m_ 10 rfl) (by kernel_rfl)
     clear hdep
     refine wpOp_step (o := _) rfl (fun K hK => ?_)
     simp only [FL]
     go_simp
     refine hK _ _ ⟨.pointer (some ⟨w.heap.size, 1, none⟩), by simp only [FL, f10], Below.refl _ _, rfl, nF⟩
    ·intro xs wk78 hBk hdep
     have HBk78 := Lib.hid hBk; have zk78 := hBk.size; clear hBk
     have f11 : (xs 11) = .pointer (some ⟨w.heap.size, 1, none⟩) := hdep _ (m_ 11 rfl) (by kernel_rfl)
     clear hdep
     refine wpOp_step (o := _) rfl (fun K hK => ?_)
     simp only [FL]
     have La_79 := CB.step La HBk78.out
     have q80_0 := La_79.cell 0 rfl
     have q80_1 := La_79.cell 1 rfl
     have q80_2 := La_79.cell 2 rfl
     have q80_lt := La_79.lt
     go_simp
     refine hK _ _ ⟨.slice A l c, by simp only [FL, f11], Below.refl _ _, rfl, nF⟩
    ·intro xs wk81 hBk hdep
     have HBk81 := Lib.hid hBk; have zk81 := hBk.size; clear hBk
     have f12 : (xs 12) = .slice A l c := hdep _ (m_ 12 rfl) (by kernel_rfl)
     clear hdep
     refine wpOp_step (o := _) rfl (fun K hK => ?_)
     simp only [FL]
     go_simp
     have Ha_82 := Lib.hid (RN.step Ha.out HBk81.out)
     (with_reducible refine (cloneN_any _ _ _ Ha_82.out (by have := HL.out; omega)).mono ?_)
     rintro e wc83 ⟨hb83, v83, rfl, hv83⟩
     refine hK _ _ ⟨v83, by simp only [FL, f12], hb83, hv83, nF⟩
    ·intro xs wk84 hBk hdep
     have HBk84 := Lib.hid hBk; have zk84 := hBk.size; clear hBk
     have f13 : RN wk84 wk84.heap.size (xs 13) (dig z.natAbs) := hdep _ (m_ 13 rfl) (by kernel_rfl)
     have f9 : (xs 9) = .bool (decide (0 < l)) := hdep _ (m_ 9 rfl) (by kernel_rfl)
     clear hdep
     refine wpOp_step (o := _) rfl (fun K hK => ?_)
     simp only [FL]
     obtain ⟨A13, c13, hx13, -⟩ := RN.cell f13; have r13 := f13; rw [hx13] at r13 ⊢
     go_simp
     refine hK _ _ ⟨.agg #[.bool (decide (0 < l)), .slice A13 (dig (z).natAbs).length c13], by simp only [FL, f9, hx13], Below.refl _ _, ⟨_, by rw [HS.out], r13⟩, nF⟩
    ·intro xs wk85 hBk hdep
     have HBk85 := Lib.hid hBk; have zk85 := hBk.size; clear hBk
     clear hdep
     refine wpOp_step (o := _) rfl (fun K hK => ?_)
     simp only [FL]
     go_simp
     refine hK _ _ ⟨.pointer (some ⟨wk85.heap.size, 0, none⟩), by kernel_rfl, (Below.refl _ _).alloc (Nat.le_refl _) _, ⟨_, rfl, CB.new _ _ _⟩, fun _ => ⟨_, rfl, Nat.le_refl _, by simp⟩⟩
   ·exact all_nil
   ·intro xs wf86 hbf hf hn hd
    have f0 : (xs 0) = .pointer (some ⟨w.heap.size, 0, none⟩) := hf _ (m_ 0 rfl)
    have f1 : (xs 1) = .pointer (some ⟨w.heap.size, 0, none⟩) := hf _ (m_ 1 rfl)
    have f2 : (xs 2) = .bool true := hf _ (m_ 2 rfl)
    have f3 : (xs 3) = .bool true := hf _ (m_ 3 rfl)
    have f4 : (xs 4) = .pointer (some ⟨w.heap.size, 0, none⟩) := hf _ (m_ 4 rfl)
    have f5 : (xs 5) = .pointer (some ⟨w.heap.size, 1, none⟩) := hf _ (m_ 5 rfl)
    have f6 : (xs 6) = .slice A l c := hf _ (m_ 6 rfl)
    have f7 : (xs 7) = .int .i64 (l : Int) := hf _ (m_ 7 rfl)
    have f8 : (xs 8) = .bool (decide (0 < l)) := hf _ (m_ 8 rfl)
    have f9 : (xs 9) = .bool (decide (0 < l)) := hf _ (m_ 9 rfl)
    have f10 : (xs 10) = .pointer (some ⟨w.heap.size, 0, none⟩) := hf _ (m_ 10 rfl)
    have f11 : (xs 11) = .pointer (some ⟨w.heap.size, 1, none⟩) := hf _ (m_ 11 rfl)
    have f12 : (xs 12) = .slice A l c := hf _ (m_ 12 rfl)
    have f13 : RN wf86 wf86.heap.size (xs 13) (dig z.natAbs) := hf _ (m_ 13 rfl)
    have f14 : LV wf86 wf86.heap.size (xs 14) z := hf _ (m_ 14 rfl)
    have f15 : ∃ b, (xs 15) = .pointer (some ⟨b, 0, none⟩) ∧ CB wf86 b 24 #[.bool false, .slice none 0 0] := hf _ (m_ 15 rfl)
    have n15 := hn 15 (by decide)
    clear hf hn hd
    simp only [FL]
    have B87 := Lib.hid hbf
    have z87 := B87.out.size
    have HB88 := Lib.hid (B0.out.trans (B87.out.mono B0.out.size))
    clear hbf
    generalize xs 0 = x0 at *
    generalize xs 1 = x1 at *
    generalize xs 2 = x2 at *
    generalize xs 3 = x3 at *
    generalize xs 4 = x4 at *
    generalize xs 5 = x5 at *
    generalize xs 6 = x6 at *
    generalize xs 7 = x7 at *
    generalize xs 8 = x8 at *
    generalize xs 9 = x9 at *
    generalize xs 10 = x10 at *
    generalize xs 11 = x11 at *
    generalize xs 12 = x12 at *
    generalize xs 13 = x13 at *
    generalize xs 14 = x14 at *
    generalize xs 15 = x15 at *
    obtain rfl := f0
    obtain rfl := f1
    obtain rfl := f2
    obtain rfl := f3
    obtain rfl := f4
    obtain rfl := f5
    obtain rfl := f6
    obtain rfl := f7
    obtain rfl := f8
    obtain rfl := f9
    obtain rfl := f10
    obtain rfl := f11
    obtain rfl := f12
    clear f13
    obtain ⟨n89, Ad89, l89, c89, rfl, hv89⟩ := f14.opened
    have Hn_89 := Lib.hid hv89
    clear f14 hv89
    obtain ⟨bn90_N, rfl, Ln91_N⟩ := f15
    have hge_bn90_N := Lib.hid (show w0.heap.size ≤ bn90_N by obtain ⟨b', e, h, -⟩ := n15; injection e with e; injection e with e; injection e with e _ _; omega)
    clear n15
    have hgb_bn90_N := Ln91_N.lt; have hgc_bn90_N := hge_bn90_N.out
    have q92_0 := Ln91_N.cell 0 rfl
    have q92_1 := Ln91_N.cell 1 rfl
    have q92_lt := Ln91_N.lt
    have q93_0 := Ln91_N.frozen 0
    have q93_1 := Ln91_N.frozen 1
    have q93_lt := Ln91_N.lt
    refine Early.next (i := 16) (by kernel_rfl) rfl (fun K hK => ?_)
    go_simp
    refine hK _ _ (fun _ => trivial) ?_
    clear hK K
    (try simp only [Act.put, List.setIfInBounds_toArray, List.set_cons_zero, List.set_cons_succ])
    clear q92_0 q92_1 q92_lt q93_0 q93_1 q93_lt
    refine Early.done (by kernel_rfl) ?_ _
    (try simp only [Exit.then])
    have La_94 := CB.step La B87.out
    have Lo_95 := CB.step Lo B87.out
    obtain ⟨w96, hW96⟩ : ∃ w96 : World, w96 = ((wf86.setCell ⟨bn90_N, 0, none⟩ (.bool n89)).setCell ⟨bn90_N, 1, none⟩ (.slice Ad89 l89 c89)) := ⟨_, rfl⟩
    rw [← hW96]
    have S96 := Lib.hid (show Soft wf86 w96 by rw [hW96]; exact (CB.soft1 (Ln91_N) (by simp [noInt_b, noInt_s]) 0 (.bool n89)).trans (CB.soft1 ((show CB _ (bn90_N) 24 #[.bool n89, .slice none 0 0] from CB.set (Ln91_N) 0 (.bool n89))) (by simp [noInt_b, noInt_s]) 1 (.slice Ad89 l89 c89)))
    have La_96 : CB w96 (w.heap.size) 95 #[.bool true, .slice A l c, .slice A' l' c'] := by rw [hW96]; exact CB.far (p := ⟨bn90_N, 1, none⟩) (CB.far (p := ⟨bn90_N, 0, none⟩) (La_94) (show w.heap.size ≠ bn90_N from by omega) _) (show w.heap.size ≠ bn90_N from by omega) _
    have Lo_96 : CB w96 (w.heap.size + 1) 26 #[.bool false, .slice none 0 0, .bool false, .slice none 0 0] := by rw [hW96]; exact CB.far (p := ⟨bn90_N, 1, none⟩) (CB.far (p := ⟨bn90_N, 0, none⟩) (Lo_95) (show w.heap.size + 1 ≠ bn90_N from by omega) _) (show w.heap.size + 1 ≠ bn90_N from by omega) _
    have LN_96 : CB w96 (bn90_N) 24 #[.bool n89, .slice Ad89 l89 c89] := by rw [hW96]; exact (show CB _ (bn90_N) 24 #[.bool n89, .slice Ad89 l89 c89] from CB.set ((show CB _ (bn90_N) 24 #[.bool n89, .slice none 0 0] from CB.set (Ln91_N) 0 (.bool n89))) 1 (.slice Ad89 l89 c89))
    have HBP96 := Lib.hid (show Below w.heap.size w w96 by rw [hW96]; exact below_set1 (below_set1 (HB88.out) (by omega) _ _) (by omega) _ _)
    have zw96 : w96.heap.size = wf86.heap.size := by rw [hW96]; simp [World.setCell]
    clear hW96
    go_upto_region 5 with (fail)
    have Hn_97 := Lib.hid (LV.soft Hn_89.out (S96.out))
    have HN5 := Lib.hid (show RN w96 w96.heap.size (.slice Ad89 l89 c89) (dig z.natAbs) ∧ n89 = decide (z < 0) from ⟨(LV.is Hn_97.out).2.2, (LV.is Hn_97.out).1⟩)
    refine Flow.run [⟨0, 30, fun fv fw => fv = .agg #[.bool n89, .slice Ad89 l89 c89]⟩, ⟨1, 31, fun fv fw => fv = .pointer (some ⟨w.heap.size, 2, none⟩)⟩, ⟨2, 32, fun fv fw => fv = .slice A' l' c'⟩, ⟨3, 33, fun fv fw => RN fw fw.heap.size fv (dig d)⟩, ⟨4, 34, fun fv fw => ∃ A l c, fv = .agg #[.bool false, .slice A l c] ∧ RN fw fw.heap.size (.slice A l c) (dig d)⟩, ⟨5, 35, fun fv fw => QV fw fw.heap.size fv q⟩, ⟨6, 36, fun fv fw => fv = .int .i64 0⟩, ⟨7, 37, fun fv fw => ∃ u, fv = .tuple #[u, .int .i64 0] ∧ QO fw fw.heap.size u (some q)⟩, ⟨8, 38, fun fv fw => QO fw fw.heap.size fv (some q)⟩, ⟨9, 39, fun fv fw => fv = .int .i64 0⟩] [] [] 2 (by kernel_rfl) (by kernel_rfl) (by kernel_rfl) (fun _ _ _ _ _ h => h) ?_ ?_ ?_ ?_
    ·refine (all_cons (fun v w1 w2 h hb => h) (all_cons (fun v w1 w2 h hb => h) (all_cons (fun v w1 w2 h hb => h) (all_cons (fun v w1 w2 h hb => h.step hb) (all_cons (fun v w1 w2 h hb => let ⟨A, l, c, e, h⟩ := h; ⟨A, l, c, e, h.stepN hb⟩) (all_cons (fun v w1 w2 h hb => h.step hb) (all_cons (fun v w1 w2 h hb => h) (all_cons (fun v w1 w2 h hb => let ⟨u, e, h⟩ := h; ⟨u, e, QO.step h hb⟩) (all_cons (fun v w1 w2 h hb => (show QO w2 w2.heap.size v (some q) from QO.step (o := (some q)) h hb)) (all_cons (fun v w1 w2 h hb => h) all_nil))))))))))
    ·refine (all_cons ?_ (all_cons ?_ (all_cons ?_ (all_cons ?_ (all_cons ?_ (all_cons ?_ (all_cons ?_ (all_cons ?_ (all_cons ?_ (all_cons ?_ all_nil))))))))))
     ·intro xs wk98 hBk hdep
      have HBk98 := Lib.hid hBk; have zk98 := hBk.size; clear hBk
      clear hdep
      refine wpOp_step (o := _) rfl (fun K hK => ?_)
      simp only [FL]
      have LN_99 := CB.step LN_96 HBk98.out
      have q100_0 := LN_99.cell 0 rfl
      have q100_1 := LN_99.cell 1 rfl
      have q100_lt := LN_99.lt
      go_simp
      refine hK _ _ ⟨.agg #[.bool n89, .slice Ad89 l89 c89], by kernel_rfl, Below.refl _ _, rfl, nF⟩
     ·intro xs wk101 hBk hdep
      have HBk101 := Lib.hid hBk; have zk101 := hBk.size; clear hBk
      clear hdep
      refine wpOp_step (o := _) rfl (fun K hK => ?_)
      simp only [FL]
      go_simp
      refine hK _ _ ⟨.pointer (some ⟨w.heap.size, 2, none⟩), by kernel_rfl, Below.refl _ _, rfl, nF⟩
     ·intro xs wk102 hBk hdep
      have HBk102 := Lib.hid hBk; have zk102 := hBk.size; clear hBk
      have f1 : (xs 1) = .pointer (some ⟨w.heap.size, 2, none⟩) := hdep _ (m_ 1 rfl) (by kernel_rfl)
      clear hdep
      refine wpOp_step (o := _) rfl (fun K hK => ?_)
      simp only [FL]
      have La_103 := CB.step La_96 HBk102.out
      have q104_0 := La_103.cell 0 rfl
      have q104_1 := La_103.cell 1 rfl
      have q104_2 := La_103.cell 2 rfl
      have q104_lt := La_103.lt
      go_simp
      refine hK _ _ ⟨.slice A' l' c', by simp only [FL, f1], Below.refl _ _, rfl, nF⟩
     ·intro xs wk105 hBk hdep
      have HBk105 := Lib.hid hBk; have zk105 := hBk.size; clear hBk
      have f2 : (xs 2) = .slice A' l' c' := hdep _ (m_ 2 rfl) (by kernel_rfl)
      clear hdep
      refine wpOp_step (o := _) rfl (fun K hK => ?_)
      simp only [FL]
      go_simp
      have Hd_106 := Lib.hid (RN.soft Hd.out (((Soft.of B87.out).trans (S96.out)).trans (Soft.of HBk105.out)))
      (with_reducible refine (cloneN_any _ _ _ Hd_106.out (by have := HL'.out; omega)).mono ?_)
      rintro e wc107 ⟨hb107, v107, rfl, hv107⟩
      refine hK _ _ ⟨v107, by simp only [FL, f2], hb107, hv107, nF⟩
     ·intro xs wk108 hBk hdep
      have HBk108 := Lib.hid hBk; have zk108 := hBk.size; clear hBk
      have f3 : RN wk108 wk108.heap.size (xs 3) (dig d) := hdep _ (m_ 3 rfl) (by kernel_rfl)
      clear hdep
      refine wpOp_step (o := _) rfl (fun K hK => ?_)
      simp only [FL]
      obtain ⟨A3, c3, hx3, -⟩ := RN.cell f3; have r3 := f3; rw [hx3] at r3 ⊢
      go_simp
      refine hK _ _ ⟨.agg #[.bool false, .slice A3 (dig d).length c3], by simp only [FL, hx3], Below.refl _ _, ⟨_, _, _, rfl, r3⟩, nF⟩
     ·intro xs wk109 hBk hdep
      have HBk109 := Lib.hid hBk; have zk109 := hBk.size; clear hBk
      have f0 : (xs 0) = .agg #[.bool n89, .slice Ad89 l89 c89] := hdep _ (m_ 0 rfl) (by kernel_rfl)
      have f4 : ∃ A l c, (xs 4) = .agg #[.bool false, .slice A l c] ∧ RN wk109 wk109.heap.size (.slice A l c) (dig d) := hdep _ (m_ 4 rfl) (by kernel_rfl)
      clear hdep
      refine wpOp_step (o := _) rfl (fun K hK => ?_)
      simp only [FL]
      obtain ⟨Bd, ud, cd, hu, rd⟩ := f4; rw [hu]
      have rn110 := RN.stepN HN5.out.1 HBk109.out
      go_simp
      refine hK _ _ ⟨.agg #[.bool n89, .slice Ad89 l89 c89, .bool false, .slice Bd ud cd], by simp only [FL, f0, hu], Below.refl _ _, ⟨_, _, _, _, _, _, _, rfl, by rw [hnum]; exact rn110, by rw [hden]; exact rd, by rw [hnum]; exact HN5.out.2⟩, nF⟩
     ·intro xs wk111 hBk hdep
      have HBk111 := Lib.hid hBk; have zk111 := hBk.size; clear hBk
      clear hdep
      refine wpOp_step (o := _) rfl (fun K hK => ?_)
      simp only [FL]
      go_simp
      refine hK _ _ ⟨.int .i64 0, by kernel_rfl, Below.refl _ _, rfl, nF⟩
     ·intro xs wk112 hBk hdep
      have HBk112 := Lib.hid hBk; have zk112 := hBk.size; clear hBk
      have f5 : QV wk112 wk112.heap.size (xs 5) q := hdep _ (m_ 5 rfl) (by kernel_rfl)
      have f6 : (xs 6) = .int .i64 0 := hdep _ (m_ 6 rfl) (by kernel_rfl)
      clear hdep
      refine wpOp_step (o := _) rfl (fun K hK => ?_)
      simp only [FL]
      obtain ⟨qn, qA, ql, qc, qB, qm, qd, hu, ra, rb, rc⟩ := f5; rw [hu]; have RC := Lib.hid rc; clear rc
      go_simp
      (with_reducible refine (madeQ_yes _ qn false qA qB ql qc qm qd).mono ?_)
      rintro e wc113 ⟨hb113, rfl⟩
      refine hK _ _ ⟨.tuple #[.agg #[.bool qn, .slice qA ql qc, .bool false, .slice qB qm qd], .int .i64 0], by simp only [FL, f6, hu], hb113, ⟨_, rfl, QV.step ⟨_, _, _, _, _, _, _, rfl, ra, rb, RC.out⟩ hb113⟩, nF⟩
     ·intro xs wk114 hBk hdep
      have HBk114 := Lib.hid hBk; have zk114 := hBk.size; clear hBk
      have f7 : ∃ u, (xs 7) = .tuple #[u, .int .i64 0] ∧ QO wk114 wk114.heap.size u (some q) := hdep _ (m_ 7 rfl) (by kernel_rfl)
      clear hdep
      refine wpOp_step (o := _) rfl (fun K hK => ?_)
      simp only [FL]
      obtain ⟨u, hu, hl⟩ := f7; rw [hu]
      go_simp
      refine hK _ _ ⟨u, by simp only [FL, hu], Below.refl _ _, hl, nF⟩
     ·intro xs wk115 hBk hdep
      have HBk115 := Lib.hid hBk; have zk115 := hBk.size; clear hBk
      have f7 : ∃ u, (xs 7) = .tuple #[u, .int .i64 0] ∧ QO wk115 wk115.heap.size u (some q) := hdep _ (m_ 7 rfl) (by kernel_rfl)
      clear hdep
      refine wpOp_step (o := _) rfl (fun K hK => ?_)
      simp only [FL]
      obtain ⟨u, hu, -⟩ := f7; rw [hu]
      go_simp
      refine hK _ _ ⟨.int .i64 0, by simp only [FL, hu], Below.refl _ _, rfl, nF⟩
    ·exact all_nil
    ·intro xs wf116 hbf hf hn hd
     have f0 : (xs 0) = .agg #[.bool n89, .slice Ad89 l89 c89] := hf _ (m_ 0 rfl)
     have f1 : (xs 1) = .pointer (some ⟨w.heap.size, 2, none⟩) := hf _ (m_ 1 rfl)
     have f2 : (xs 2) = .slice A' l' c' := hf _ (m_ 2 rfl)
     have f3 : RN wf116 wf116.heap.size (xs 3) (dig d) := hf _ (m_ 3 rfl)
     have f4 : ∃ A l c, (xs 4) = .agg #[.bool false, .slice A l c] ∧ RN wf116 wf116.heap.size (.slice A l c) (dig d) := hf _ (m_ 4 rfl)
     have f5 : QV wf116 wf116.heap.size (xs 5) q := hf _ (m_ 5 rfl)
     have f6 : (xs 6) = .int .i64 0 := hf _ (m_ 6 rfl)
     have f7 : ∃ u, (xs 7) = .tuple #[u, .int .i64 0] ∧ QO wf116 wf116.heap.size u (some q) := hf _ (m_ 7 rfl)
     have f8 : QO wf116 wf116.heap.size (xs 8) (some q) := hf _ (m_ 8 rfl)
     have f9 : (xs 9) = .int .i64 0 := hf _ (m_ 9 rfl)
     clear hf hn hd
     simp only [FL]
     have B117 := Lib.hid hbf
     have z117 := B117.out.size
     have HB118 := Lib.hid (HBP96.out.trans (B117.out.mono HBP96.out.size))
     clear hbf
     generalize xs 0 = x0 at *
     generalize xs 1 = x1 at *
     generalize xs 2 = x2 at *
     generalize xs 3 = x3 at *
     generalize xs 4 = x4 at *
     generalize xs 5 = x5 at *
     generalize xs 6 = x6 at *
     generalize xs 7 = x7 at *
     generalize xs 8 = x8 at *
     generalize xs 9 = x9 at *
     obtain rfl := f0
     obtain rfl := f1
     obtain rfl := f2
     clear f3
     clear f4
     clear f5
     obtain rfl := f6
     clear f7
     obtain ⟨on119, oA119, ol119, oc119, oB119, om_119, od119, rfl, ha119, hb119, hc119⟩ := (show QV wf116 wf116.heap.size x8 q from f8)
     have Hq_119 := Lib.hid (show QV wf116 wf116.heap.size (.agg #[.bool on119, .slice oA119 ol119 oc119, .bool false, .slice oB119 om_119 od119]) q from ⟨_, _, _, _, _, _, _, rfl, ha119, hb119, hc119⟩)
     clear ha119 hb119 hc119
     obtain rfl := f9
     have Lo_120 := CB.step Lo_96 B117.out
     have q121_0 := Lo_120.cell 0 rfl
     have q121_1 := Lo_120.cell 1 rfl
     have q121_2 := Lo_120.cell 2 rfl
     have q121_3 := Lo_120.cell 3 rfl
     have q121_lt := Lo_120.lt
     have q122_0 := Lo_120.frozen 0
     have q122_1 := Lo_120.frozen 1
     have q122_2 := Lo_120.frozen 2
     have q122_3 := Lo_120.frozen 3
     have q122_lt := Lo_120.lt
     refine Early.next (i := 10) (by kernel_rfl) rfl (fun K hK => ?_)
     go_simp
     refine hK _ _ (fun _ => trivial) ?_
     clear hK K
     (try simp only [Act.put, List.setIfInBounds_toArray, List.set_cons_zero, List.set_cons_succ])
     clear q121_0 q121_1 q121_2 q121_3 q121_lt q122_0 q122_1 q122_2 q122_3 q122_lt
     refine Early.next (i := 11) (by kernel_rfl) rfl (fun K hK => ?_)
     go_simp
     refine hK _ _ (fun _ => trivial) ?_
     clear hK K
     (try simp only [Act.put, List.setIfInBounds_toArray, List.set_cons_zero, List.set_cons_succ])
     refine Early.done (by kernel_rfl) ?_ _
     (try simp only [Exit.then])
     go_wp2
     exact QB.fin rfl Lo_120 (by simp [noInt_b, noInt_s]) HB118.out (by omega) (by rw [HR.out]; exact Hq_119.out) rfl (by rw [HR.out]; rfl)
 ·have HR := Lib.hid (show r = (none, 6) by rw [hr]; unfold toldQ; rw [if_neg (fun h : fitQ q => by have h1 := h.1; have h2 := h.2; rw [hnum, ← EL.out] at h1; rw [hden, ← EL'.out] at h2; omega)]); clear hr
  have hmx : (600 : Int) < max (l : Int) (l' : Int) := by omega
  cases n with
  | false =>
   have hz : 0 ≤ z := by rcases wsgn_cases hn with h | ⟨h, -⟩ | ⟨-, h⟩ <;> first | omega | cases h
   have HS := Lib.hid (show decide (z < 0) = false by rw [decide_eq_false]; omega)
   clear hn
   go_enter Tryz.func67, Tryz.ntmps67
   go_upto_region 2 with (fail)
   rw [← hw0]; clear hw0
   have q123_0 := La.cell 0 rfl
   have q123_1 := La.cell 1 rfl
   have q123_2 := La.cell 2 rfl
   have q123_lt := La.lt
   go_upto_region 4 with (fail)
   clear q123_0 q123_1 q123_2 q123_lt
   refine Flow.run [⟨0, 15, fun fv fw => fv = .pointer (some ⟨w.heap.size, 0, none⟩)⟩, ⟨1, 16, fun fv fw => fv = .pointer (some ⟨w.heap.size, 0, none⟩)⟩, ⟨2, 17, fun fv fw => fv = .bool false⟩, ⟨3, 18, fun fv fw => fv = .bool false⟩, ⟨4, 19, fun fv fw => True⟩, ⟨5, 20, fun fv fw => True⟩, ⟨6, 21, fun fv fw => True⟩, ⟨7, 22, fun fv fw => True⟩, ⟨8, 23, fun fv fw => True⟩, ⟨9, 24, fun fv fw => fv = .bool false⟩, ⟨10, 25, fun fv fw => fv = .pointer (some ⟨w.heap.size, 0, none⟩)⟩, ⟨11, 26, fun fv fw => fv = .pointer (some ⟨w.heap.size, 1, none⟩)⟩, ⟨12, 27, fun fv fw => fv = .slice A l c⟩, ⟨13, 28, fun fv fw => RN fw fw.heap.size fv (dig z.natAbs)⟩, ⟨14, 29, fun fv fw => LV fw fw.heap.size fv z⟩, ⟨15, 5, fun fv fw => ∃ b, fv = .pointer (some ⟨b, 0, none⟩) ∧ CB fw b 24 #[.bool false, .slice none 0 0]⟩] [] [15] 1 (by kernel_rfl) (by kernel_rfl) (by kernel_rfl) (fun _ _ _ _ _ h => h) ?_ ?_ ?_ ?_
   ·refine (all_cons (fun v w1 w2 h hb => h) (all_cons (fun v w1 w2 h hb => h) (all_cons (fun v w1 w2 h hb => h) (all_cons (fun v w1 w2 h hb => h) (all_cons (fun v w1 w2 h hb => h) (all_cons (fun v w1 w2 h hb => h) (all_cons (fun v w1 w2 h hb => h) (all_cons (fun v w1 w2 h hb => h) (all_cons (fun v w1 w2 h hb => h) (all_cons (fun v w1 w2 h hb => h) (all_cons (fun v w1 w2 h hb => h) (all_cons (fun v w1 w2 h hb => h) (all_cons (fun v w1 w2 h hb => h) (all_cons (fun v w1 w2 h hb => h.step hb) (all_cons (fun v w1 w2 h hb => h.step hb) (all_cons (fun v w1 w2 h hb => let ⟨b, e, h⟩ := h; ⟨b, e, h.step hb⟩) all_nil))))))))))))))))
   ·refine (all_cons ?_ (all_cons ?_ (all_cons ?_ (all_cons ?_ (all_cons ?_ (all_cons ?_ (all_cons ?_ (all_cons ?_ (all_cons ?_ (all_cons ?_ (all_cons ?_ (all_cons ?_ (all_cons ?_ (all_cons ?_ (all_cons ?_ (all_cons ?_ all_nil))))))))))))))))
    ·intro xs wk124 hBk hdep
     have HBk124 := Lib.hid hBk; have zk124 := hBk.size; clear hBk
     clear hdep
     refine wpOp_step (o := _) rfl (fun K hK => ?_)
     simp only [FL]
     go_simp
     refine hK _ _ ⟨.pointer (some ⟨w.heap.size, 0, none⟩), by kernel_rfl, Below.refl _ _, rfl, nF⟩
    ·intro xs wk125 hBk hdep
     have HBk125 := Lib.hid hBk; have zk125 := hBk.size; clear hBk
     have f0 : (xs 0) = .pointer (some ⟨w.heap.size, 0, none⟩) := hdep _ (m_ 0 rfl) (by kernel_rfl)
     clear hdep
     refine wpOp_step (o := _) rfl (fun K hK => ?_)
     simp only [FL]
     go_simp
     refine hK _ _ ⟨.pointer (some ⟨w.heap.size, 0, none⟩), by simp only [FL, f0], Below.refl _ _, rfl, nF⟩
    ·intro xs wk126 hBk hdep
     have HBk126 := Lib.hid hBk; have zk126 := hBk.size; clear hBk
     have f1 : (xs 1) = .pointer (some ⟨w.heap.size, 0, none⟩) := hdep _ (m_ 1 rfl) (by kernel_rfl)
     clear hdep
     refine wpOp_step (o := _) rfl (fun K hK => ?_)
     simp only [FL]
     have La_127 := CB.step La HBk126.out
     have q128_0 := La_127.cell 0 rfl
     have q128_1 := La_127.cell 1 rfl
     have q128_2 := La_127.cell 2 rfl
     have q128_lt := La_127.lt
     go_simp
     refine hK _ _ ⟨.bool false, by simp only [FL, f1], Below.refl _ _, rfl, nF⟩
    ·intro xs wk129 hBk hdep
     have HBk129 := Lib.hid hBk; have zk129 := hBk.size; clear hBk
     have f2 : (xs 2) = .bool false := hdep _ (m_ 2 rfl) (by kernel_rfl)
     clear hdep
     refine wpOp_step (o := _) rfl (fun K hK => ?_)
     simp only [FL]
     go_simp
     refine hK _ _ ⟨.bool false, by simp only [FL, f2], Below.refl _ _, rfl, nF⟩
    ·intro xs wk130 hBk hdep
     have HBk130 := Lib.hid hBk; have zk130 := hBk.size; clear hBk
     have f3 : (xs 3) = .bool false := hdep _ (m_ 3 rfl) (by kernel_rfl)
     clear hdep
     refine wpOp_step (o := ?go130) ?gho130 ?gh130
     case gho130 => exact rfl
     intro K hK
     simp only [FL]
     go_simp
     refine hK _ _ ⟨undef, by simp only [FL, f3], Below.refl _ _, trivial, nF⟩
    ·intro xs wk131 hBk hdep
     have HBk131 := Lib.hid hBk; have zk131 := hBk.size; clear hBk
     have f3 : (xs 3) = .bool false := hdep _ (m_ 3 rfl) (by kernel_rfl)
     clear hdep
     refine wpOp_step (o := ?go131) ?gho131 ?gh131
     case gho131 => exact rfl
     intro K hK
     simp only [FL]
     go_simp
     refine hK _ _ ⟨undef, by simp only [FL, f3], Below.refl _ _, trivial, nF⟩
    ·intro xs wk132 hBk hdep
     have HBk132 := Lib.hid hBk; have zk132 := hBk.size; clear hBk
     have f3 : (xs 3) = .bool false := hdep _ (m_ 3 rfl) (by kernel_rfl)
     clear hdep
     refine wpOp_step (o := ?go132) ?gho132 ?gh132
     case gho132 => exact rfl
     intro K hK
     simp only [FL]
     go_simp
     refine hK _ _ ⟨undef, by simp only [FL, f3], Below.refl _ _, trivial, nF⟩
    ·intro xs wk133 hBk hdep
     have HBk133 := Lib.hid hBk; have zk133 := hBk.size; clear hBk
     have f3 : (xs 3) = .bool false := hdep _ (m_ 3 rfl) (by kernel_rfl)
     clear hdep
     refine wpOp_step (o := ?go133) ?gho133 ?gh133
     case gho133 => exact rfl
     intro K hK
     simp only [FL]
     go_simp
     refine hK _ _ ⟨undef, by simp only [FL, f3], Below.refl _ _, trivial, nF⟩
    ·intro xs wk134 hBk hdep
     have HBk134 := Lib.hid hBk; have zk134 := hBk.size; clear hBk
     have f3 : (xs 3) = .bool false := hdep _ (m_ 3 rfl) (by kernel_rfl)
     clear hdep
     refine wpOp_step (o := ?go134) ?gho134 ?gh134
     case gho134 => exact rfl
     intro K hK
     simp only [FL]
     go_simp
     refine hK _ _ ⟨undef, by simp only [FL, f3], Below.refl _ _, trivial, nF⟩
    ·intro xs wk135 hBk hdep
     have HBk135 := Lib.hid hBk; have zk135 := hBk.size; clear hBk
     have f3 : (xs 3) = .bool false := hdep _ (m_ 3 rfl) (by kernel_rfl)
     clear hdep
     refine wpOp_step (o := _) rfl (fun K hK => ?_)
     simp only [FL]
     go_simp
     refine hK _ _ ⟨.bool false, by simp only [FL, f3], Below.refl _ _, rfl, nF⟩
    ·intro xs wk136 hBk hdep
     have HBk136 := Lib.hid hBk; have zk136 := hBk.size; clear hBk
     clear hdep
     refine wpOp_step (o := _) rfl (fun K hK => ?_)
     simp only [FL]
     go_simp
     refine hK _ _ ⟨.pointer (some ⟨w.heap.size, 0, none⟩), by kernel_rfl, Below.refl _ _, rfl, nF⟩
    ·intro xs wk137 hBk hdep
     have HBk137 := Lib.hid hBk; have zk137 := hBk.size; clear hBk
     have f10 : (xs 10) = .pointer (some ⟨w.heap.size, 0, none⟩) := hdep _ (m_ 10 rfl) (by kernel_rfl)
     clear hdep
     refine wpOp_step (o := _) rfl (fun K hK => ?_)
     simp only [FL]
     go_simp
     refine hK _ _ ⟨.pointer (some ⟨w.heap.size, 1, none⟩), by simp only [FL, f10], Below.refl _ _, rfl, nF⟩
    ·intro xs wk138 hBk hdep
     have HBk138 := Lib.hid hBk; have zk138 := hBk.size; clear hBk
     have f11 : (xs 11) = .pointer (some ⟨w.heap.size, 1, none⟩) := hdep _ (m_ 11 rfl) (by kernel_rfl)
     clear hdep
     refine wpOp_step (o := _) rfl (fun K hK => ?_)
     simp only [FL]
     have La_139 := CB.step La HBk138.out
     have q140_0 := La_139.cell 0 rfl
     have q140_1 := La_139.cell 1 rfl
     have q140_2 := La_139.cell 2 rfl
     have q140_lt := La_139.lt
     go_simp
     refine hK _ _ ⟨.slice A l c, by simp only [FL, f11], Below.refl _ _, rfl, nF⟩
    ·intro xs wk141 hBk hdep
     have HBk141 := Lib.hid hBk; have zk141 := hBk.size; clear hBk
     have f12 : (xs 12) = .slice A l c := hdep _ (m_ 12 rfl) (by kernel_rfl)
     clear hdep
     refine wpOp_step (o := _) rfl (fun K hK => ?_)
     simp only [FL]
     go_simp
     have Ha_142 := Lib.hid (RN.step Ha.out HBk141.out)
     (with_reducible refine (cloneN_any _ _ _ Ha_142.out (by have := HL.out; omega)).mono ?_)
     rintro e wc143 ⟨hb143, v143, rfl, hv143⟩
     refine hK _ _ ⟨v143, by simp only [FL, f12], hb143, hv143, nF⟩
    ·intro xs wk144 hBk hdep
     have HBk144 := Lib.hid hBk; have zk144 := hBk.size; clear hBk
     have f13 : RN wk144 wk144.heap.size (xs 13) (dig z.natAbs) := hdep _ (m_ 13 rfl) (by kernel_rfl)
     have f9 : (xs 9) = .bool false := hdep _ (m_ 9 rfl) (by kernel_rfl)
     clear hdep
     refine wpOp_step (o := _) rfl (fun K hK => ?_)
     simp only [FL]
     obtain ⟨A13, c13, hx13, -⟩ := RN.cell f13; have r13 := f13; rw [hx13] at r13 ⊢
     go_simp
     refine hK _ _ ⟨.agg #[.bool false, .slice A13 (dig (z).natAbs).length c13], by simp only [FL, f9, hx13], Below.refl _ _, ⟨_, by rw [HS.out], r13⟩, nF⟩
    ·intro xs wk145 hBk hdep
     have HBk145 := Lib.hid hBk; have zk145 := hBk.size; clear hBk
     clear hdep
     refine wpOp_step (o := _) rfl (fun K hK => ?_)
     simp only [FL]
     go_simp
     refine hK _ _ ⟨.pointer (some ⟨wk145.heap.size, 0, none⟩), by kernel_rfl, (Below.refl _ _).alloc (Nat.le_refl _) _, ⟨_, rfl, CB.new _ _ _⟩, fun _ => ⟨_, rfl, Nat.le_refl _, by simp⟩⟩
   ·exact all_nil
   ·intro xs wf146 hbf hf hn hd
    have f0 : (xs 0) = .pointer (some ⟨w.heap.size, 0, none⟩) := hf _ (m_ 0 rfl)
    have f1 : (xs 1) = .pointer (some ⟨w.heap.size, 0, none⟩) := hf _ (m_ 1 rfl)
    have f2 : (xs 2) = .bool false := hf _ (m_ 2 rfl)
    have f3 : (xs 3) = .bool false := hf _ (m_ 3 rfl)
    have f4 : True := hf _ (m_ 4 rfl)
    have f5 : True := hf _ (m_ 5 rfl)
    have f6 : True := hf _ (m_ 6 rfl)
    have f7 : True := hf _ (m_ 7 rfl)
    have f8 : True := hf _ (m_ 8 rfl)
    have f9 : (xs 9) = .bool false := hf _ (m_ 9 rfl)
    have f10 : (xs 10) = .pointer (some ⟨w.heap.size, 0, none⟩) := hf _ (m_ 10 rfl)
    have f11 : (xs 11) = .pointer (some ⟨w.heap.size, 1, none⟩) := hf _ (m_ 11 rfl)
    have f12 : (xs 12) = .slice A l c := hf _ (m_ 12 rfl)
    have f13 : RN wf146 wf146.heap.size (xs 13) (dig z.natAbs) := hf _ (m_ 13 rfl)
    have f14 : LV wf146 wf146.heap.size (xs 14) z := hf _ (m_ 14 rfl)
    have f15 : ∃ b, (xs 15) = .pointer (some ⟨b, 0, none⟩) ∧ CB wf146 b 24 #[.bool false, .slice none 0 0] := hf _ (m_ 15 rfl)
    have n15 := hn 15 (by decide)
    clear hf hn hd
    simp only [FL]
    have B147 := Lib.hid hbf
    have z147 := B147.out.size
    have HB148 := Lib.hid (B0.out.trans (B147.out.mono B0.out.size))
    clear hbf
    generalize xs 0 = x0 at *
    generalize xs 1 = x1 at *
    generalize xs 2 = x2 at *
    generalize xs 3 = x3 at *
    generalize xs 4 = x4 at *
    generalize xs 5 = x5 at *
    generalize xs 6 = x6 at *
    generalize xs 7 = x7 at *
    generalize xs 8 = x8 at *
    generalize xs 9 = x9 at *
    generalize xs 10 = x10 at *
    generalize xs 11 = x11 at *
    generalize xs 12 = x12 at *
    generalize xs 13 = x13 at *
    generalize xs 14 = x14 at *
    generalize xs 15 = x15 at *
    obtain rfl := f0
    obtain rfl := f1
    obtain rfl := f2
    obtain rfl := f3
    clear f4
    clear f5
    clear f6
    clear f7
    clear f8
    obtain rfl := f9
    obtain rfl := f10
    obtain rfl := f11
    obtain rfl := f12
    clear f13
    obtain ⟨n149, Ad149, l149, c149, rfl, hv149⟩ := f14.opened
    have Hn_149 := Lib.hid hv149
    clear f14 hv149
    obtain ⟨bn150_N, rfl, Ln151_N⟩ := f15
    have hge_bn150_N := Lib.hid (show w0.heap.size ≤ bn150_N by obtain ⟨b', e, h, -⟩ := n15; injection e with e; injection e with e; injection e with e _ _; omega)
    clear n15
    have hgb_bn150_N := Ln151_N.lt; have hgc_bn150_N := hge_bn150_N.out
    have q152_0 := Ln151_N.cell 0 rfl
    have q152_1 := Ln151_N.cell 1 rfl
    have q152_lt := Ln151_N.lt
    have q153_0 := Ln151_N.frozen 0
    have q153_1 := Ln151_N.frozen 1
    have q153_lt := Ln151_N.lt
    refine Early.next (i := 16) (by kernel_rfl) rfl (fun K hK => ?_)
    go_simp
    refine hK _ _ (fun _ => trivial) ?_
    clear hK K
    (try simp only [Act.put, List.setIfInBounds_toArray, List.set_cons_zero, List.set_cons_succ])
    clear q152_0 q152_1 q152_lt q153_0 q153_1 q153_lt
    refine Early.done (by kernel_rfl) ?_ _
    (try simp only [Exit.then])
    have La_154 := CB.step La B147.out
    have Lo_155 := CB.step Lo B147.out
    obtain ⟨w156, hW156⟩ : ∃ w156 : World, w156 = ((wf146.setCell ⟨bn150_N, 0, none⟩ (.bool n149)).setCell ⟨bn150_N, 1, none⟩ (.slice Ad149 l149 c149)) := ⟨_, rfl⟩
    rw [← hW156]
    have S156 := Lib.hid (show Soft wf146 w156 by rw [hW156]; exact (CB.soft1 (Ln151_N) (by simp [noInt_b, noInt_s]) 0 (.bool n149)).trans (CB.soft1 ((show CB _ (bn150_N) 24 #[.bool n149, .slice none 0 0] from CB.set (Ln151_N) 0 (.bool n149))) (by simp [noInt_b, noInt_s]) 1 (.slice Ad149 l149 c149)))
    have La_156 : CB w156 (w.heap.size) 95 #[.bool false, .slice A l c, .slice A' l' c'] := by rw [hW156]; exact CB.far (p := ⟨bn150_N, 1, none⟩) (CB.far (p := ⟨bn150_N, 0, none⟩) (La_154) (show w.heap.size ≠ bn150_N from by omega) _) (show w.heap.size ≠ bn150_N from by omega) _
    have Lo_156 : CB w156 (w.heap.size + 1) 26 #[.bool false, .slice none 0 0, .bool false, .slice none 0 0] := by rw [hW156]; exact CB.far (p := ⟨bn150_N, 1, none⟩) (CB.far (p := ⟨bn150_N, 0, none⟩) (Lo_155) (show w.heap.size + 1 ≠ bn150_N from by omega) _) (show w.heap.size + 1 ≠ bn150_N from by omega) _
    have LN_156 : CB w156 (bn150_N) 24 #[.bool n149, .slice Ad149 l149 c149] := by rw [hW156]; exact (show CB _ (bn150_N) 24 #[.bool n149, .slice Ad149 l149 c149] from CB.set ((show CB _ (bn150_N) 24 #[.bool n149, .slice none 0 0] from CB.set (Ln151_N) 0 (.bool n149))) 1 (.slice Ad149 l149 c149))
    have HBP156 := Lib.hid (show Below w.heap.size w w156 by rw [hW156]; exact below_set1 (below_set1 (HB148.out) (by omega) _ _) (by omega) _ _)
    have zw156 : w156.heap.size = wf146.heap.size := by rw [hW156]; simp [World.setCell]
    clear hW156
    go_upto_region 5 with (fail)
    have Hn_157 := Lib.hid (LV.soft Hn_149.out (S156.out))
    have HN5 := Lib.hid (show RN w156 w156.heap.size (.slice Ad149 l149 c149) (dig z.natAbs) ∧ n149 = decide (z < 0) from ⟨(LV.is Hn_157.out).2.2, (LV.is Hn_157.out).1⟩)
    refine Flow.run [⟨0, 30, fun fv fw => fv = .agg #[.bool n149, .slice Ad149 l149 c149]⟩, ⟨1, 31, fun fv fw => fv = .pointer (some ⟨w.heap.size, 2, none⟩)⟩, ⟨2, 32, fun fv fw => fv = .slice A' l' c'⟩, ⟨3, 33, fun fv fw => RN fw fw.heap.size fv (dig d)⟩, ⟨4, 34, fun fv fw => ∃ A l c, fv = .agg #[.bool false, .slice A l c] ∧ RN fw fw.heap.size (.slice A l c) (dig d)⟩, ⟨5, 35, fun fv fw => QV fw fw.heap.size fv q⟩, ⟨6, 36, fun fv fw => fv = .int .i64 6⟩, ⟨7, 37, fun fv fw => ∃ u, fv = .tuple #[u, .int .i64 6] ∧ QO fw fw.heap.size u none⟩, ⟨8, 38, fun fv fw => QO fw fw.heap.size fv none⟩, ⟨9, 39, fun fv fw => fv = .int .i64 6⟩] [] [] 2 (by kernel_rfl) (by kernel_rfl) (by kernel_rfl) (fun _ _ _ _ _ h => h) ?_ ?_ ?_ ?_
    ·refine (all_cons (fun v w1 w2 h hb => h) (all_cons (fun v w1 w2 h hb => h) (all_cons (fun v w1 w2 h hb => h) (all_cons (fun v w1 w2 h hb => h.step hb) (all_cons (fun v w1 w2 h hb => let ⟨A, l, c, e, h⟩ := h; ⟨A, l, c, e, h.stepN hb⟩) (all_cons (fun v w1 w2 h hb => h.step hb) (all_cons (fun v w1 w2 h hb => h) (all_cons (fun v w1 w2 h hb => let ⟨u, e, h⟩ := h; ⟨u, e, QO.step h hb⟩) (all_cons (fun v w1 w2 h hb => (show QO w2 w2.heap.size v none from QO.step (o := none) h hb)) (all_cons (fun v w1 w2 h hb => h) all_nil))))))))))
    ·refine (all_cons ?_ (all_cons ?_ (all_cons ?_ (all_cons ?_ (all_cons ?_ (all_cons ?_ (all_cons ?_ (all_cons ?_ (all_cons ?_ (all_cons ?_ all_nil))))))))))
     ·intro xs wk158 hBk hdep
      have HBk158 := Lib.hid hBk; have zk158 := hBk.size; clear hBk
      clear hdep
      refine wpOp_step (o := _) rfl (fun K hK => ?_)
      simp only [FL]
      have LN_159 := CB.step LN_156 HBk158.out
      have q160_0 := LN_159.cell 0 rfl
      have q160_1 := LN_159.cell 1 rfl
      have q160_lt := LN_159.lt
      go_simp
      refine hK _ _ ⟨.agg #[.bool n149, .slice Ad149 l149 c149], by kernel_rfl, Below.refl _ _, rfl, nF⟩
     ·intro xs wk161 hBk hdep
      have HBk161 := Lib.hid hBk; have zk161 := hBk.size; clear hBk
      clear hdep
      refine wpOp_step (o := _) rfl (fun K hK => ?_)
      simp only [FL]
      go_simp
      refine hK _ _ ⟨.pointer (some ⟨w.heap.size, 2, none⟩), by kernel_rfl, Below.refl _ _, rfl, nF⟩
     ·intro xs wk162 hBk hdep
      have HBk162 := Lib.hid hBk; have zk162 := hBk.size; clear hBk
      have f1 : (xs 1) = .pointer (some ⟨w.heap.size, 2, none⟩) := hdep _ (m_ 1 rfl) (by kernel_rfl)
      clear hdep
      refine wpOp_step (o := _) rfl (fun K hK => ?_)
      simp only [FL]
      have La_163 := CB.step La_156 HBk162.out
      have q164_0 := La_163.cell 0 rfl
      have q164_1 := La_163.cell 1 rfl
      have q164_2 := La_163.cell 2 rfl
      have q164_lt := La_163.lt
      go_simp
      refine hK _ _ ⟨.slice A' l' c', by simp only [FL, f1], Below.refl _ _, rfl, nF⟩
     ·intro xs wk165 hBk hdep
      have HBk165 := Lib.hid hBk; have zk165 := hBk.size; clear hBk
      have f2 : (xs 2) = .slice A' l' c' := hdep _ (m_ 2 rfl) (by kernel_rfl)
      clear hdep
      refine wpOp_step (o := _) rfl (fun K hK => ?_)
      simp only [FL]
      go_simp
      have Hd_166 := Lib.hid (RN.soft Hd.out (((Soft.of B147.out).trans (S156.out)).trans (Soft.of HBk165.out)))
      (with_reducible refine (cloneN_any _ _ _ Hd_166.out (by have := HL'.out; omega)).mono ?_)
      rintro e wc167 ⟨hb167, v167, rfl, hv167⟩
      refine hK _ _ ⟨v167, by simp only [FL, f2], hb167, hv167, nF⟩
     ·intro xs wk168 hBk hdep
      have HBk168 := Lib.hid hBk; have zk168 := hBk.size; clear hBk
      have f3 : RN wk168 wk168.heap.size (xs 3) (dig d) := hdep _ (m_ 3 rfl) (by kernel_rfl)
      clear hdep
      refine wpOp_step (o := _) rfl (fun K hK => ?_)
      simp only [FL]
      obtain ⟨A3, c3, hx3, -⟩ := RN.cell f3; have r3 := f3; rw [hx3] at r3 ⊢
      go_simp
      refine hK _ _ ⟨.agg #[.bool false, .slice A3 (dig d).length c3], by simp only [FL, hx3], Below.refl _ _, ⟨_, _, _, rfl, r3⟩, nF⟩
     ·intro xs wk169 hBk hdep
      have HBk169 := Lib.hid hBk; have zk169 := hBk.size; clear hBk
      have f0 : (xs 0) = .agg #[.bool n149, .slice Ad149 l149 c149] := hdep _ (m_ 0 rfl) (by kernel_rfl)
      have f4 : ∃ A l c, (xs 4) = .agg #[.bool false, .slice A l c] ∧ RN wk169 wk169.heap.size (.slice A l c) (dig d) := hdep _ (m_ 4 rfl) (by kernel_rfl)
      clear hdep
      refine wpOp_step (o := _) rfl (fun K hK => ?_)
      simp only [FL]
      obtain ⟨Bd, ud, cd, hu, rd⟩ := f4; rw [hu]
      have rn170 := RN.stepN HN5.out.1 HBk169.out
      go_simp
      refine hK _ _ ⟨.agg #[.bool n149, .slice Ad149 l149 c149, .bool false, .slice Bd ud cd], by simp only [FL, f0, hu], Below.refl _ _, ⟨_, _, _, _, _, _, _, rfl, by rw [hnum]; exact rn170, by rw [hden]; exact rd, by rw [hnum]; exact HN5.out.2⟩, nF⟩
     ·intro xs wk171 hBk hdep
      have HBk171 := Lib.hid hBk; have zk171 := hBk.size; clear hBk
      clear hdep
      refine wpOp_step (o := _) rfl (fun K hK => ?_)
      simp only [FL]
      go_simp
      refine hK _ _ ⟨.int .i64 6, by kernel_rfl, Below.refl _ _, rfl, nF⟩
     ·intro xs wk172 hBk hdep
      have HBk172 := Lib.hid hBk; have zk172 := hBk.size; clear hBk
      have f5 : QV wk172 wk172.heap.size (xs 5) q := hdep _ (m_ 5 rfl) (by kernel_rfl)
      have f6 : (xs 6) = .int .i64 6 := hdep _ (m_ 6 rfl) (by kernel_rfl)
      clear hdep
      refine wpOp_step (o := _) rfl (fun K hK => ?_)
      simp only [FL]
      obtain ⟨qn, qA, ql, qc, qB, qm, qd, hu, ra, rb, rc⟩ := f5; rw [hu]; have RC := Lib.hid rc; clear rc
      go_simp
      (with_reducible refine (madeQ_no _ qn false qA qB ql qc qm qd 6 (by decide)).mono ?_)
      rintro e wc173 ⟨hb173, rfl⟩
      refine hK _ _ ⟨.tuple #[.agg #[.bool false, .slice none 0 0, .bool false, .slice none 0 0], .int .i64 6], by simp only [FL, f6, hu], hb173, ⟨_, rfl, zeroQ _ _⟩, nF⟩
     ·intro xs wk174 hBk hdep
      have HBk174 := Lib.hid hBk; have zk174 := hBk.size; clear hBk
      have f7 : ∃ u, (xs 7) = .tuple #[u, .int .i64 6] ∧ QO wk174 wk174.heap.size u none := hdep _ (m_ 7 rfl) (by kernel_rfl)
      clear hdep
      refine wpOp_step (o := _) rfl (fun K hK => ?_)
      simp only [FL]
      obtain ⟨u, hu, hl⟩ := f7; rw [hu]
      go_simp
      refine hK _ _ ⟨u, by simp only [FL, hu], Below.refl _ _, hl, nF⟩
     ·intro xs wk175 hBk hdep
      have HBk175 := Lib.hid hBk; have zk175 := hBk.size; clear hBk
      have f7 : ∃ u, (xs 7) = .tuple #[u, .int .i64 6] ∧ QO wk175 wk175.heap.size u none := hdep _ (m_ 7 rfl) (by kernel_rfl)
      clear hdep
      refine wpOp_step (o := _) rfl (fun K hK => ?_)
      simp only [FL]
      obtain ⟨u, hu, -⟩ := f7; rw [hu]
      go_simp
      refine hK _ _ ⟨.int .i64 6, by simp only [FL, hu], Below.refl _ _, rfl, nF⟩
    ·exact all_nil
    ·intro xs wf176 hbf hf hn hd
     have f0 : (xs 0) = .agg #[.bool n149, .slice Ad149 l149 c149] := hf _ (m_ 0 rfl)
     have f1 : (xs 1) = .pointer (some ⟨w.heap.size, 2, none⟩) := hf _ (m_ 1 rfl)
     have f2 : (xs 2) = .slice A' l' c' := hf _ (m_ 2 rfl)
     have f3 : RN wf176 wf176.heap.size (xs 3) (dig d) := hf _ (m_ 3 rfl)
     have f4 : ∃ A l c, (xs 4) = .agg #[.bool false, .slice A l c] ∧ RN wf176 wf176.heap.size (.slice A l c) (dig d) := hf _ (m_ 4 rfl)
     have f5 : QV wf176 wf176.heap.size (xs 5) q := hf _ (m_ 5 rfl)
     have f6 : (xs 6) = .int .i64 6 := hf _ (m_ 6 rfl)
     have f7 : ∃ u, (xs 7) = .tuple #[u, .int .i64 6] ∧ QO wf176 wf176.heap.size u none := hf _ (m_ 7 rfl)
     have f8 : QO wf176 wf176.heap.size (xs 8) none := hf _ (m_ 8 rfl)
     have f9 : (xs 9) = .int .i64 6 := hf _ (m_ 9 rfl)
     clear hf hn hd
     simp only [FL]
     have B177 := Lib.hid hbf
     have z177 := B177.out.size
     have HB178 := Lib.hid (HBP156.out.trans (B177.out.mono HBP156.out.size))
     clear hbf
     generalize xs 0 = x0 at *
     generalize xs 1 = x1 at *
     generalize xs 2 = x2 at *
     generalize xs 3 = x3 at *
     generalize xs 4 = x4 at *
     generalize xs 5 = x5 at *
     generalize xs 6 = x6 at *
     generalize xs 7 = x7 at *
     generalize xs 8 = x8 at *
     generalize xs 9 = x9 at *
     obtain rfl := f0
     obtain rfl := f1
     obtain rfl := f2
     clear f3
     clear f4
     clear f5
     obtain rfl := f6
     clear f7
     have g8 : QR wf176 wf176.heap.size x8 false [] false [] := f8; clear f8
     obtain ⟨oA179, ol179, oc179, oB179, om_179, od179, rfl, ha179, hb179⟩ := g8
     have Hq_179 := Lib.hid (QR.mk (n := false) (m := false) ha179 hb179)
     clear ha179 hb179
     obtain rfl := f9
     have Lo_180 := CB.step Lo_156 B177.out
     have q181_0 := Lo_180.cell 0 rfl
     have q181_1 := Lo_180.cell 1 rfl
     have q181_2 := Lo_180.cell 2 rfl
     have q181_3 := Lo_180.cell 3 rfl
     have q181_lt := Lo_180.lt
     have q182_0 := Lo_180.frozen 0
     have q182_1 := Lo_180.frozen 1
     have q182_2 := Lo_180.frozen 2
     have q182_3 := Lo_180.frozen 3
     have q182_lt := Lo_180.lt
     refine Early.next (i := 10) (by kernel_rfl) rfl (fun K hK => ?_)
     go_simp
     refine hK _ _ (fun _ => trivial) ?_
     clear hK K
     (try simp only [Act.put, List.setIfInBounds_toArray, List.set_cons_zero, List.set_cons_succ])
     clear q181_0 q181_1 q181_2 q181_3 q181_lt q182_0 q182_1 q182_2 q182_3 q182_lt
     refine Early.next (i := 11) (by kernel_rfl) rfl (fun K hK => ?_)
     go_simp
     refine hK _ _ (fun _ => trivial) ?_
     clear hK K
     (try simp only [Act.put, List.setIfInBounds_toArray, List.set_cons_zero, List.set_cons_succ])
     refine Early.done (by kernel_rfl) ?_ _
     (try simp only [Exit.then])
     go_wp2
     exact QB.fin rfl Lo_180 (by simp [noInt_b, noInt_s]) HB178.out (by omega) (by rw [HR.out]; exact Hq_179.out) rfl (by rw [HR.out]; rfl)
  | true =>
   have hzl : z < 0 ↔ 0 < l := by
    constructor
    ·intro h; rw [EL.out]; have := dig_len_pos (n := z.natAbs) (by omega); omega
    ·intro h; rcases wsgn_cases hn with h1 | ⟨-, h1⟩ | ⟨h1, -⟩
     ·rw [EL.out, h1, show (0 : Int).natAbs = 0 from rfl, dig_zero] at h; simp at h
     ·exact h1
     ·cases h1
   have HS := Lib.hid (show decide (z < 0) = (decide (0 < l)) by exact decide_eq_decide.2 hzl)
   clear hn hzl
   go_enter Tryz.func67, Tryz.ntmps67
   go_upto_region 2 with (fail)
   rw [← hw0]; clear hw0
   have q183_0 := La.cell 0 rfl
   have q183_1 := La.cell 1 rfl
   have q183_2 := La.cell 2 rfl
   have q183_lt := La.lt
   go_upto_region 4 with (fail)
   clear q183_0 q183_1 q183_2 q183_lt
   refine Flow.run [⟨0, 15, fun fv fw => fv = .pointer (some ⟨w.heap.size, 0, none⟩)⟩, ⟨1, 16, fun fv fw => fv = .pointer (some ⟨w.heap.size, 0, none⟩)⟩, ⟨2, 17, fun fv fw => fv = .bool true⟩, ⟨3, 18, fun fv fw => fv = .bool true⟩, ⟨4, 19, fun fv fw => fv = .pointer (some ⟨w.heap.size, 0, none⟩)⟩, ⟨5, 20, fun fv fw => fv = .pointer (some ⟨w.heap.size, 1, none⟩)⟩, ⟨6, 21, fun fv fw => fv = .slice A l c⟩, ⟨7, 22, fun fv fw => fv = .int .i64 (l : Int)⟩, ⟨8, 23, fun fv fw => fv = .bool (decide (0 < l))⟩, ⟨9, 24, fun fv fw => fv = .bool (decide (0 < l))⟩, ⟨10, 25, fun fv fw => fv = .pointer (some ⟨w.heap.size, 0, none⟩)⟩, ⟨11, 26, fun fv fw => fv = .pointer (some ⟨w.heap.size, 1, none⟩)⟩, ⟨12, 27, fun fv fw => fv = .slice A l c⟩, ⟨13, 28, fun fv fw => RN fw fw.heap.size fv (dig z.natAbs)⟩, ⟨14, 29, fun fv fw => LV fw fw.heap.size fv z⟩, ⟨15, 5, fun fv fw => ∃ b, fv = .pointer (some ⟨b, 0, none⟩) ∧ CB fw b 24 #[.bool false, .slice none 0 0]⟩] [] [15] 1 (by kernel_rfl) (by kernel_rfl) (by kernel_rfl) (fun _ _ _ _ _ h => h) ?_ ?_ ?_ ?_
   ·refine (all_cons (fun v w1 w2 h hb => h) (all_cons (fun v w1 w2 h hb => h) (all_cons (fun v w1 w2 h hb => h) (all_cons (fun v w1 w2 h hb => h) (all_cons (fun v w1 w2 h hb => h) (all_cons (fun v w1 w2 h hb => h) (all_cons (fun v w1 w2 h hb => h) (all_cons (fun v w1 w2 h hb => h) (all_cons (fun v w1 w2 h hb => h) (all_cons (fun v w1 w2 h hb => h) (all_cons (fun v w1 w2 h hb => h) (all_cons (fun v w1 w2 h hb => h) (all_cons (fun v w1 w2 h hb => h) (all_cons (fun v w1 w2 h hb => h.step hb) (all_cons (fun v w1 w2 h hb => h.step hb) (all_cons (fun v w1 w2 h hb => let ⟨b, e, h⟩ := h; ⟨b, e, h.step hb⟩) all_nil))))))))))))))))
   ·refine (all_cons ?_ (all_cons ?_ (all_cons ?_ (all_cons ?_ (all_cons ?_ (all_cons ?_ (all_cons ?_ (all_cons ?_ (all_cons ?_ (all_cons ?_ (all_cons ?_ (all_cons ?_ (all_cons ?_ (all_cons ?_ (all_cons ?_ (all_cons ?_ all_nil))))))))))))))))
    ·intro xs wk184 hBk hdep
     have HBk184 := Lib.hid hBk; have zk184 := hBk.size; clear hBk
     clear hdep
     refine wpOp_step (o := _) rfl (fun K hK => ?_)
     simp only [FL]
     go_simp
     refine hK _ _ ⟨.pointer (some ⟨w.heap.size, 0, none⟩), by kernel_rfl, Below.refl _ _, rfl, nF⟩
    ·intro xs wk185 hBk hdep
     have HBk185 := Lib.hid hBk; have zk185 := hBk.size; clear hBk
     have f0 : (xs 0) = .pointer (some ⟨w.heap.size, 0, none⟩) := hdep _ (m_ 0 rfl) (by kernel_rfl)
     clear hdep
     refine wpOp_step (o := _) rfl (fun K hK => ?_)
     simp only [FL]
     go_simp
     refine hK _ _ ⟨.pointer (some ⟨w.heap.size, 0, none⟩), by simp only [FL, f0], Below.refl _ _, rfl, nF⟩
    ·intro xs wk186 hBk hdep
     have HBk186 := Lib.hid hBk; have zk186 := hBk.size; clear hBk
     have f1 : (xs 1) = .pointer (some ⟨w.heap.size, 0, none⟩) := hdep _ (m_ 1 rfl) (by kernel_rfl)
     clear hdep
     refine wpOp_step (o := _) rfl (fun K hK => ?_)
     simp only [FL]
     have La_187 := CB.step La HBk186.out
     have q188_0 := La_187.cell 0 rfl
     have q188_1 := La_187.cell 1 rfl
     have q188_2 := La_187.cell 2 rfl
     have q188_lt := La_187.lt
     go_simp
     refine hK _ _ ⟨.bool true, by simp only [FL, f1], Below.refl _ _, rfl, nF⟩
    ·intro xs wk189 hBk hdep
     have HBk189 := Lib.hid hBk; have zk189 := hBk.size; clear hBk
     have f2 : (xs 2) = .bool true := hdep _ (m_ 2 rfl) (by kernel_rfl)
     clear hdep
     refine wpOp_step (o := _) rfl (fun K hK => ?_)
     simp only [FL]
     go_simp
     refine hK _ _ ⟨.bool true, by simp only [FL, f2], Below.refl _ _, rfl, nF⟩
    ·intro xs wk190 hBk hdep
     have HBk190 := Lib.hid hBk; have zk190 := hBk.size; clear hBk
     have f3 : (xs 3) = .bool true := hdep _ (m_ 3 rfl) (by kernel_rfl)
     clear hdep
     refine wpOp_step (o := ?go190) ?gho190 ?gh190
     case gho190 => exact rfl
     intro K hK
     simp only [FL]
     go_simp
     refine hK _ _ ⟨.pointer (some ⟨w.heap.size, 0, none⟩), by simp only [FL, f3], Below.refl _ _, rfl, nF⟩
    ·intro xs wk191 hBk hdep
     have HBk191 := Lib.hid hBk; have zk191 := hBk.size; clear hBk
     have f3 : (xs 3) = .bool true := hdep _ (m_ 3 rfl) (by kernel_rfl)
     have f4 : (xs 4) = .pointer (some ⟨w.heap.size, 0, none⟩) := hdep _ (m_ 4 rfl) (by kernel_rfl)
     clear hdep
     refine wpOp_step (o := ?go191) ?gho191 ?gh191
     case gho191 => exact rfl
     intro K hK
     simp only [FL]
     go_simp
     refine hK _ _ ⟨.pointer (some ⟨w.heap.size, 1, none⟩), by simp only [FL, f3, f4], Below.refl _ _, rfl, nF⟩
    ·intro xs wk192 hBk hdep
     have HBk192 := Lib.hid hBk; have zk192 := hBk.size; clear hBk
     have f3 : (xs 3) = .bool true := hdep _ (m_ 3 rfl) (by kernel_rfl)
     have f5 : (xs 5) = .pointer (some ⟨w.heap.size, 1, none⟩) := hdep _ (m_ 5 rfl) (by kernel_rfl)
     clear hdep
     refine wpOp_step (o := ?go192) ?gho192 ?gh192
     case gho192 => exact rfl
     intro K hK
     simp only [FL]
     have La_193 := CB.step La HBk192.out
     have q194_0 := La_193.cell 0 rfl
     have q194_1 := La_193.cell 1 rfl
     have q194_2 := La_193.cell 2 rfl
     have q194_lt := La_193.lt
     go_simp
     refine hK _ _ ⟨.slice A l c, by simp only [FL, f3, f5], Below.refl _ _, rfl, nF⟩
    ·intro xs wk195 hBk hdep
     have HBk195 := Lib.hid hBk; have zk195 := hBk.size; clear hBk
     have f3 : (xs 3) = .bool true := hdep _ (m_ 3 rfl) (by kernel_rfl)
     have f6 : (xs 6) = .slice A l c := hdep _ (m_ 6 rfl) (by kernel_rfl)
     clear hdep
     refine wpOp_step (o := ?go195) ?gho195 ?gh195
     case gho195 => exact rfl
     intro K hK
     simp only [FL]
     go_simp
     refine hK _ _ ⟨.int .i64 (l : Int), by simp only [FL, f3, f6], Below.refl _ _, rfl, nF⟩
    ·intro xs wk196 hBk hdep
     have HBk196 := Lib.hid hBk; have zk196 := hBk.size; clear hBk
     have f3 : (xs 3) = .bool true := hdep _ (m_ 3 rfl) (by kernel_rfl)
     have f7 : (xs 7) = .int .i64 (l : Int) := hdep _ (m_ 7 rfl) (by kernel_rfl)
     clear hdep
     refine wpOp_step (o := ?go196) ?gho196 ?gh196
     case gho196 => exact rfl
     intro K hK
     simp only [FL]
     go_simp
     refine hK _ _ ⟨.bool (decide (0 < l)), by simp only [FL, f3, f7], Below.refl _ _, rfl, nF⟩
    ·intro xs wk197 hBk hdep
     have HBk197 := Lib.hid hBk; have zk197 := hBk.size; clear hBk
     have f3 : (xs 3) = .bool true := hdep _ (m_ 3 rfl) (by kernel_rfl)
     have f8 : (xs 8) = .bool (decide (0 < l)) := hdep _ (m_ 8 rfl) (by kernel_rfl)
     clear hdep
     refine wpOp_step (o := _) rfl (fun K hK => ?_)
     simp only [FL]
     go_simp
     refine hK _ _ ⟨.bool (decide (0 < l)), by simp only [FL, f3, f8], Below.refl _ _, rfl, nF⟩
    ·intro xs wk198 hBk hdep
     have HBk198 := Lib.hid hBk; have zk198 := hBk.size; clear hBk
     clear hdep
     refine wpOp_step (o := _) rfl (fun K hK => ?_)
     simp only [FL]
     go_simp
     refine hK _ _ ⟨.pointer (some ⟨w.heap.size, 0, none⟩), by kernel_rfl, Below.refl _ _, rfl, nF⟩
    ·intro xs wk199 hBk hdep
     have HBk199 := Lib.hid hBk; have zk199 := hBk.size; clear hBk
     have f10 : (xs 10) = .pointer (some ⟨w.heap.size, 0, none⟩) := hdep _ (m_ 10 rfl) (by kernel_rfl)
     clear hdep
     refine wpOp_step (o := _) rfl (fun K hK => ?_)
     simp only [FL]
     go_simp
     refine hK _ _ ⟨.pointer (some ⟨w.heap.size, 1, none⟩), by simp only [FL, f10], Below.refl _ _, rfl, nF⟩
    ·intro xs wk200 hBk hdep
     have HBk200 := Lib.hid hBk; have zk200 := hBk.size; clear hBk
     have f11 : (xs 11) = .pointer (some ⟨w.heap.size, 1, none⟩) := hdep _ (m_ 11 rfl) (by kernel_rfl)
     clear hdep
     refine wpOp_step (o := _) rfl (fun K hK => ?_)
     simp only [FL]
     have La_201 := CB.step La HBk200.out
     have q202_0 := La_201.cell 0 rfl
     have q202_1 := La_201.cell 1 rfl
     have q202_2 := La_201.cell 2 rfl
     have q202_lt := La_201.lt
     go_simp
     refine hK _ _ ⟨.slice A l c, by simp only [FL, f11], Below.refl _ _, rfl, nF⟩
    ·intro xs wk203 hBk hdep
     have HBk203 := Lib.hid hBk; have zk203 := hBk.size; clear hBk
     have f12 : (xs 12) = .slice A l c := hdep _ (m_ 12 rfl) (by kernel_rfl)
     clear hdep
     refine wpOp_step (o := _) rfl (fun K hK => ?_)
     simp only [FL]
     go_simp
     have Ha_204 := Lib.hid (RN.step Ha.out HBk203.out)
     (with_reducible refine (cloneN_any _ _ _ Ha_204.out (by have := HL.out; omega)).mono ?_)
     rintro e wc205 ⟨hb205, v205, rfl, hv205⟩
     refine hK _ _ ⟨v205, by simp only [FL, f12], hb205, hv205, nF⟩
    ·intro xs wk206 hBk hdep
     have HBk206 := Lib.hid hBk; have zk206 := hBk.size; clear hBk
     have f13 : RN wk206 wk206.heap.size (xs 13) (dig z.natAbs) := hdep _ (m_ 13 rfl) (by kernel_rfl)
     have f9 : (xs 9) = .bool (decide (0 < l)) := hdep _ (m_ 9 rfl) (by kernel_rfl)
     clear hdep
     refine wpOp_step (o := _) rfl (fun K hK => ?_)
     simp only [FL]
     obtain ⟨A13, c13, hx13, -⟩ := RN.cell f13; have r13 := f13; rw [hx13] at r13 ⊢
     go_simp
     refine hK _ _ ⟨.agg #[.bool (decide (0 < l)), .slice A13 (dig (z).natAbs).length c13], by simp only [FL, f9, hx13], Below.refl _ _, ⟨_, by rw [HS.out], r13⟩, nF⟩
    ·intro xs wk207 hBk hdep
     have HBk207 := Lib.hid hBk; have zk207 := hBk.size; clear hBk
     clear hdep
     refine wpOp_step (o := _) rfl (fun K hK => ?_)
     simp only [FL]
     go_simp
     refine hK _ _ ⟨.pointer (some ⟨wk207.heap.size, 0, none⟩), by kernel_rfl, (Below.refl _ _).alloc (Nat.le_refl _) _, ⟨_, rfl, CB.new _ _ _⟩, fun _ => ⟨_, rfl, Nat.le_refl _, by simp⟩⟩
   ·exact all_nil
   ·intro xs wf208 hbf hf hn hd
    have f0 : (xs 0) = .pointer (some ⟨w.heap.size, 0, none⟩) := hf _ (m_ 0 rfl)
    have f1 : (xs 1) = .pointer (some ⟨w.heap.size, 0, none⟩) := hf _ (m_ 1 rfl)
    have f2 : (xs 2) = .bool true := hf _ (m_ 2 rfl)
    have f3 : (xs 3) = .bool true := hf _ (m_ 3 rfl)
    have f4 : (xs 4) = .pointer (some ⟨w.heap.size, 0, none⟩) := hf _ (m_ 4 rfl)
    have f5 : (xs 5) = .pointer (some ⟨w.heap.size, 1, none⟩) := hf _ (m_ 5 rfl)
    have f6 : (xs 6) = .slice A l c := hf _ (m_ 6 rfl)
    have f7 : (xs 7) = .int .i64 (l : Int) := hf _ (m_ 7 rfl)
    have f8 : (xs 8) = .bool (decide (0 < l)) := hf _ (m_ 8 rfl)
    have f9 : (xs 9) = .bool (decide (0 < l)) := hf _ (m_ 9 rfl)
    have f10 : (xs 10) = .pointer (some ⟨w.heap.size, 0, none⟩) := hf _ (m_ 10 rfl)
    have f11 : (xs 11) = .pointer (some ⟨w.heap.size, 1, none⟩) := hf _ (m_ 11 rfl)
    have f12 : (xs 12) = .slice A l c := hf _ (m_ 12 rfl)
    have f13 : RN wf208 wf208.heap.size (xs 13) (dig z.natAbs) := hf _ (m_ 13 rfl)
    have f14 : LV wf208 wf208.heap.size (xs 14) z := hf _ (m_ 14 rfl)
    have f15 : ∃ b, (xs 15) = .pointer (some ⟨b, 0, none⟩) ∧ CB wf208 b 24 #[.bool false, .slice none 0 0] := hf _ (m_ 15 rfl)
    have n15 := hn 15 (by decide)
    clear hf hn hd
    simp only [FL]
    have B209 := Lib.hid hbf
    have z209 := B209.out.size
    have HB210 := Lib.hid (B0.out.trans (B209.out.mono B0.out.size))
    clear hbf
    generalize xs 0 = x0 at *
    generalize xs 1 = x1 at *
    generalize xs 2 = x2 at *
    generalize xs 3 = x3 at *
    generalize xs 4 = x4 at *
    generalize xs 5 = x5 at *
    generalize xs 6 = x6 at *
    generalize xs 7 = x7 at *
    generalize xs 8 = x8 at *
    generalize xs 9 = x9 at *
    generalize xs 10 = x10 at *
    generalize xs 11 = x11 at *
    generalize xs 12 = x12 at *
    generalize xs 13 = x13 at *
    generalize xs 14 = x14 at *
    generalize xs 15 = x15 at *
    obtain rfl := f0
    obtain rfl := f1
    obtain rfl := f2
    obtain rfl := f3
    obtain rfl := f4
    obtain rfl := f5
    obtain rfl := f6
    obtain rfl := f7
    obtain rfl := f8
    obtain rfl := f9
    obtain rfl := f10
    obtain rfl := f11
    obtain rfl := f12
    clear f13
    obtain ⟨n211, Ad211, l211, c211, rfl, hv211⟩ := f14.opened
    have Hn_211 := Lib.hid hv211
    clear f14 hv211
    obtain ⟨bn212_N, rfl, Ln213_N⟩ := f15
    have hge_bn212_N := Lib.hid (show w0.heap.size ≤ bn212_N by obtain ⟨b', e, h, -⟩ := n15; injection e with e; injection e with e; injection e with e _ _; omega)
    clear n15
    have hgb_bn212_N := Ln213_N.lt; have hgc_bn212_N := hge_bn212_N.out
    have q214_0 := Ln213_N.cell 0 rfl
    have q214_1 := Ln213_N.cell 1 rfl
    have q214_lt := Ln213_N.lt
    have q215_0 := Ln213_N.frozen 0
    have q215_1 := Ln213_N.frozen 1
    have q215_lt := Ln213_N.lt
    refine Early.next (i := 16) (by kernel_rfl) rfl (fun K hK => ?_)
    go_simp
    refine hK _ _ (fun _ => trivial) ?_
    clear hK K
    (try simp only [Act.put, List.setIfInBounds_toArray, List.set_cons_zero, List.set_cons_succ])
    clear q214_0 q214_1 q214_lt q215_0 q215_1 q215_lt
    refine Early.done (by kernel_rfl) ?_ _
    (try simp only [Exit.then])
    have La_216 := CB.step La B209.out
    have Lo_217 := CB.step Lo B209.out
    obtain ⟨w218, hW218⟩ : ∃ w218 : World, w218 = ((wf208.setCell ⟨bn212_N, 0, none⟩ (.bool n211)).setCell ⟨bn212_N, 1, none⟩ (.slice Ad211 l211 c211)) := ⟨_, rfl⟩
    rw [← hW218]
    have S218 := Lib.hid (show Soft wf208 w218 by rw [hW218]; exact (CB.soft1 (Ln213_N) (by simp [noInt_b, noInt_s]) 0 (.bool n211)).trans (CB.soft1 ((show CB _ (bn212_N) 24 #[.bool n211, .slice none 0 0] from CB.set (Ln213_N) 0 (.bool n211))) (by simp [noInt_b, noInt_s]) 1 (.slice Ad211 l211 c211)))
    have La_218 : CB w218 (w.heap.size) 95 #[.bool true, .slice A l c, .slice A' l' c'] := by rw [hW218]; exact CB.far (p := ⟨bn212_N, 1, none⟩) (CB.far (p := ⟨bn212_N, 0, none⟩) (La_216) (show w.heap.size ≠ bn212_N from by omega) _) (show w.heap.size ≠ bn212_N from by omega) _
    have Lo_218 : CB w218 (w.heap.size + 1) 26 #[.bool false, .slice none 0 0, .bool false, .slice none 0 0] := by rw [hW218]; exact CB.far (p := ⟨bn212_N, 1, none⟩) (CB.far (p := ⟨bn212_N, 0, none⟩) (Lo_217) (show w.heap.size + 1 ≠ bn212_N from by omega) _) (show w.heap.size + 1 ≠ bn212_N from by omega) _
    have LN_218 : CB w218 (bn212_N) 24 #[.bool n211, .slice Ad211 l211 c211] := by rw [hW218]; exact (show CB _ (bn212_N) 24 #[.bool n211, .slice Ad211 l211 c211] from CB.set ((show CB _ (bn212_N) 24 #[.bool n211, .slice none 0 0] from CB.set (Ln213_N) 0 (.bool n211))) 1 (.slice Ad211 l211 c211))
    have HBP218 := Lib.hid (show Below w.heap.size w w218 by rw [hW218]; exact below_set1 (below_set1 (HB210.out) (by omega) _ _) (by omega) _ _)
    have zw218 : w218.heap.size = wf208.heap.size := by rw [hW218]; simp [World.setCell]
    clear hW218
    go_upto_region 5 with (fail)
    have Hn_219 := Lib.hid (LV.soft Hn_211.out (S218.out))
    have HN5 := Lib.hid (show RN w218 w218.heap.size (.slice Ad211 l211 c211) (dig z.natAbs) ∧ n211 = decide (z < 0) from ⟨(LV.is Hn_219.out).2.2, (LV.is Hn_219.out).1⟩)
    refine Flow.run [⟨0, 30, fun fv fw => fv = .agg #[.bool n211, .slice Ad211 l211 c211]⟩, ⟨1, 31, fun fv fw => fv = .pointer (some ⟨w.heap.size, 2, none⟩)⟩, ⟨2, 32, fun fv fw => fv = .slice A' l' c'⟩, ⟨3, 33, fun fv fw => RN fw fw.heap.size fv (dig d)⟩, ⟨4, 34, fun fv fw => ∃ A l c, fv = .agg #[.bool false, .slice A l c] ∧ RN fw fw.heap.size (.slice A l c) (dig d)⟩, ⟨5, 35, fun fv fw => QV fw fw.heap.size fv q⟩, ⟨6, 36, fun fv fw => fv = .int .i64 6⟩, ⟨7, 37, fun fv fw => ∃ u, fv = .tuple #[u, .int .i64 6] ∧ QO fw fw.heap.size u none⟩, ⟨8, 38, fun fv fw => QO fw fw.heap.size fv none⟩, ⟨9, 39, fun fv fw => fv = .int .i64 6⟩] [] [] 2 (by kernel_rfl) (by kernel_rfl) (by kernel_rfl) (fun _ _ _ _ _ h => h) ?_ ?_ ?_ ?_
    ·refine (all_cons (fun v w1 w2 h hb => h) (all_cons (fun v w1 w2 h hb => h) (all_cons (fun v w1 w2 h hb => h) (all_cons (fun v w1 w2 h hb => h.step hb) (all_cons (fun v w1 w2 h hb => let ⟨A, l, c, e, h⟩ := h; ⟨A, l, c, e, h.stepN hb⟩) (all_cons (fun v w1 w2 h hb => h.step hb) (all_cons (fun v w1 w2 h hb => h) (all_cons (fun v w1 w2 h hb => let ⟨u, e, h⟩ := h; ⟨u, e, QO.step h hb⟩) (all_cons (fun v w1 w2 h hb => (show QO w2 w2.heap.size v none from QO.step (o := none) h hb)) (all_cons (fun v w1 w2 h hb => h) all_nil))))))))))
    ·refine (all_cons ?_ (all_cons ?_ (all_cons ?_ (all_cons ?_ (all_cons ?_ (all_cons ?_ (all_cons ?_ (all_cons ?_ (all_cons ?_ (all_cons ?_ all_nil))))))))))
     ·intro xs wk220 hBk hdep
      have HBk220 := Lib.hid hBk; have zk220 := hBk.size; clear hBk
      clear hdep
      refine wpOp_step (o := _) rfl (fun K hK => ?_)
      simp only [FL]
      have LN_221 := CB.step LN_218 HBk220.out
      have q222_0 := LN_221.cell 0 rfl
      have q222_1 := LN_221.cell 1 rfl
      have q222_lt := LN_221.lt
      go_simp
      refine hK _ _ ⟨.agg #[.bool n211, .slice Ad211 l211 c211], by kernel_rfl, Below.refl _ _, rfl, nF⟩
     ·intro xs wk223 hBk hdep
      have HBk223 := Lib.hid hBk; have zk223 := hBk.size; clear hBk
      clear hdep
      refine wpOp_step (o := _) rfl (fun K hK => ?_)
      simp only [FL]
      go_simp
      refine hK _ _ ⟨.pointer (some ⟨w.heap.size, 2, none⟩), by kernel_rfl, Below.refl _ _, rfl, nF⟩
     ·intro xs wk224 hBk hdep
      have HBk224 := Lib.hid hBk; have zk224 := hBk.size; clear hBk
      have f1 : (xs 1) = .pointer (some ⟨w.heap.size, 2, none⟩) := hdep _ (m_ 1 rfl) (by kernel_rfl)
      clear hdep
      refine wpOp_step (o := _) rfl (fun K hK => ?_)
      simp only [FL]
      have La_225 := CB.step La_218 HBk224.out
      have q226_0 := La_225.cell 0 rfl
      have q226_1 := La_225.cell 1 rfl
      have q226_2 := La_225.cell 2 rfl
      have q226_lt := La_225.lt
      go_simp
      refine hK _ _ ⟨.slice A' l' c', by simp only [FL, f1], Below.refl _ _, rfl, nF⟩
     ·intro xs wk227 hBk hdep
      have HBk227 := Lib.hid hBk; have zk227 := hBk.size; clear hBk
      have f2 : (xs 2) = .slice A' l' c' := hdep _ (m_ 2 rfl) (by kernel_rfl)
      clear hdep
      refine wpOp_step (o := _) rfl (fun K hK => ?_)
      simp only [FL]
      go_simp
      have Hd_228 := Lib.hid (RN.soft Hd.out (((Soft.of B209.out).trans (S218.out)).trans (Soft.of HBk227.out)))
      (with_reducible refine (cloneN_any _ _ _ Hd_228.out (by have := HL'.out; omega)).mono ?_)
      rintro e wc229 ⟨hb229, v229, rfl, hv229⟩
      refine hK _ _ ⟨v229, by simp only [FL, f2], hb229, hv229, nF⟩
     ·intro xs wk230 hBk hdep
      have HBk230 := Lib.hid hBk; have zk230 := hBk.size; clear hBk
      have f3 : RN wk230 wk230.heap.size (xs 3) (dig d) := hdep _ (m_ 3 rfl) (by kernel_rfl)
      clear hdep
      refine wpOp_step (o := _) rfl (fun K hK => ?_)
      simp only [FL]
      obtain ⟨A3, c3, hx3, -⟩ := RN.cell f3; have r3 := f3; rw [hx3] at r3 ⊢
      go_simp
      refine hK _ _ ⟨.agg #[.bool false, .slice A3 (dig d).length c3], by simp only [FL, hx3], Below.refl _ _, ⟨_, _, _, rfl, r3⟩, nF⟩
     ·intro xs wk231 hBk hdep
      have HBk231 := Lib.hid hBk; have zk231 := hBk.size; clear hBk
      have f0 : (xs 0) = .agg #[.bool n211, .slice Ad211 l211 c211] := hdep _ (m_ 0 rfl) (by kernel_rfl)
      have f4 : ∃ A l c, (xs 4) = .agg #[.bool false, .slice A l c] ∧ RN wk231 wk231.heap.size (.slice A l c) (dig d) := hdep _ (m_ 4 rfl) (by kernel_rfl)
      clear hdep
      refine wpOp_step (o := _) rfl (fun K hK => ?_)
      simp only [FL]
      obtain ⟨Bd, ud, cd, hu, rd⟩ := f4; rw [hu]
      have rn232 := RN.stepN HN5.out.1 HBk231.out
      go_simp
      refine hK _ _ ⟨.agg #[.bool n211, .slice Ad211 l211 c211, .bool false, .slice Bd ud cd], by simp only [FL, f0, hu], Below.refl _ _, ⟨_, _, _, _, _, _, _, rfl, by rw [hnum]; exact rn232, by rw [hden]; exact rd, by rw [hnum]; exact HN5.out.2⟩, nF⟩
     ·intro xs wk233 hBk hdep
      have HBk233 := Lib.hid hBk; have zk233 := hBk.size; clear hBk
      clear hdep
      refine wpOp_step (o := _) rfl (fun K hK => ?_)
      simp only [FL]
      go_simp
      refine hK _ _ ⟨.int .i64 6, by kernel_rfl, Below.refl _ _, rfl, nF⟩
     ·intro xs wk234 hBk hdep
      have HBk234 := Lib.hid hBk; have zk234 := hBk.size; clear hBk
      have f5 : QV wk234 wk234.heap.size (xs 5) q := hdep _ (m_ 5 rfl) (by kernel_rfl)
      have f6 : (xs 6) = .int .i64 6 := hdep _ (m_ 6 rfl) (by kernel_rfl)
      clear hdep
      refine wpOp_step (o := _) rfl (fun K hK => ?_)
      simp only [FL]
      obtain ⟨qn, qA, ql, qc, qB, qm, qd, hu, ra, rb, rc⟩ := f5; rw [hu]; have RC := Lib.hid rc; clear rc
      go_simp
      (with_reducible refine (madeQ_no _ qn false qA qB ql qc qm qd 6 (by decide)).mono ?_)
      rintro e wc235 ⟨hb235, rfl⟩
      refine hK _ _ ⟨.tuple #[.agg #[.bool false, .slice none 0 0, .bool false, .slice none 0 0], .int .i64 6], by simp only [FL, f6, hu], hb235, ⟨_, rfl, zeroQ _ _⟩, nF⟩
     ·intro xs wk236 hBk hdep
      have HBk236 := Lib.hid hBk; have zk236 := hBk.size; clear hBk
      have f7 : ∃ u, (xs 7) = .tuple #[u, .int .i64 6] ∧ QO wk236 wk236.heap.size u none := hdep _ (m_ 7 rfl) (by kernel_rfl)
      clear hdep
      refine wpOp_step (o := _) rfl (fun K hK => ?_)
      simp only [FL]
      obtain ⟨u, hu, hl⟩ := f7; rw [hu]
      go_simp
      refine hK _ _ ⟨u, by simp only [FL, hu], Below.refl _ _, hl, nF⟩
     ·intro xs wk237 hBk hdep
      have HBk237 := Lib.hid hBk; have zk237 := hBk.size; clear hBk
      have f7 : ∃ u, (xs 7) = .tuple #[u, .int .i64 6] ∧ QO wk237 wk237.heap.size u none := hdep _ (m_ 7 rfl) (by kernel_rfl)
      clear hdep
      refine wpOp_step (o := _) rfl (fun K hK => ?_)
      simp only [FL]
      obtain ⟨u, hu, -⟩ := f7; rw [hu]
      go_simp
      refine hK _ _ ⟨.int .i64 6, by simp only [FL, hu], Below.refl _ _, rfl, nF⟩
    ·exact all_nil
    ·intro xs wf238 hbf hf hn hd
     have f0 : (xs 0) = .agg #[.bool n211, .slice Ad211 l211 c211] := hf _ (m_ 0 rfl)
     have f1 : (xs 1) = .pointer (some ⟨w.heap.size, 2, none⟩) := hf _ (m_ 1 rfl)
     have f2 : (xs 2) = .slice A' l' c' := hf _ (m_ 2 rfl)
     have f3 : RN wf238 wf238.heap.size (xs 3) (dig d) := hf _ (m_ 3 rfl)
     have f4 : ∃ A l c, (xs 4) = .agg #[.bool false, .slice A l c] ∧ RN wf238 wf238.heap.size (.slice A l c) (dig d) := hf _ (m_ 4 rfl)
     have f5 : QV wf238 wf238.heap.size (xs 5) q := hf _ (m_ 5 rfl)
     have f6 : (xs 6) = .int .i64 6 := hf _ (m_ 6 rfl)
     have f7 : ∃ u, (xs 7) = .tuple #[u, .int .i64 6] ∧ QO wf238 wf238.heap.size u none := hf _ (m_ 7 rfl)
     have f8 : QO wf238 wf238.heap.size (xs 8) none := hf _ (m_ 8 rfl)
     have f9 : (xs 9) = .int .i64 6 := hf _ (m_ 9 rfl)
     clear hf hn hd
     simp only [FL]
     have B239 := Lib.hid hbf
     have z239 := B239.out.size
     have HB240 := Lib.hid (HBP218.out.trans (B239.out.mono HBP218.out.size))
     clear hbf
     generalize xs 0 = x0 at *
     generalize xs 1 = x1 at *
     generalize xs 2 = x2 at *
     generalize xs 3 = x3 at *
     generalize xs 4 = x4 at *
     generalize xs 5 = x5 at *
     generalize xs 6 = x6 at *
     generalize xs 7 = x7 at *
     generalize xs 8 = x8 at *
     generalize xs 9 = x9 at *
     obtain rfl := f0
     obtain rfl := f1
     obtain rfl := f2
     clear f3
     clear f4
     clear f5
     obtain rfl := f6
     clear f7
     have g8 : QR wf238 wf238.heap.size x8 false [] false [] := f8; clear f8
     obtain ⟨oA241, ol241, oc241, oB241, om_241, od241, rfl, ha241, hb241⟩ := g8
     have Hq_241 := Lib.hid (QR.mk (n := false) (m := false) ha241 hb241)
     clear ha241 hb241
     obtain rfl := f9
     have Lo_242 := CB.step Lo_218 B239.out
     have q243_0 := Lo_242.cell 0 rfl
     have q243_1 := Lo_242.cell 1 rfl
     have q243_2 := Lo_242.cell 2 rfl
     have q243_3 := Lo_242.cell 3 rfl
     have q243_lt := Lo_242.lt
     have q244_0 := Lo_242.frozen 0
     have q244_1 := Lo_242.frozen 1
     have q244_2 := Lo_242.frozen 2
     have q244_3 := Lo_242.frozen 3
     have q244_lt := Lo_242.lt
     refine Early.next (i := 10) (by kernel_rfl) rfl (fun K hK => ?_)
     go_simp
     refine hK _ _ (fun _ => trivial) ?_
     clear hK K
     (try simp only [Act.put, List.setIfInBounds_toArray, List.set_cons_zero, List.set_cons_succ])
     clear q243_0 q243_1 q243_2 q243_3 q243_lt q244_0 q244_1 q244_2 q244_3 q244_lt
     refine Early.next (i := 11) (by kernel_rfl) rfl (fun K hK => ?_)
     go_simp
     refine hK _ _ (fun _ => trivial) ?_
     clear hK K
     (try simp only [Act.put, List.setIfInBounds_toArray, List.set_cons_zero, List.set_cons_succ])
     refine Early.done (by kernel_rfl) ?_ _
     (try simp only [Exit.then])
     go_wp2
     exact QB.fin rfl Lo_242 (by simp [noInt_b, noInt_s]) HB240.out (by omega) (by rw [HR.out]; exact Hq_241.out) rfl (by rw [HR.out]; rfl)
end Go.Proofs.YtioclokmbgmamaaGreatDoor
