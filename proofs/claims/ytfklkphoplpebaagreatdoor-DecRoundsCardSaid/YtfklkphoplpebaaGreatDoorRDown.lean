/- The reference's Down: the greatest whole number that is at most n / d (written by gen_rdown.py). -/
import Derived.Test.YtfklkphoplpebaaGreatDoorRefb
import Derived.Test.YtfklkphoplpebaaGreatDoorRef
import Derived.Test.YtfklkphoplpebaaGreatDoorFlow
import Derived.Test.YtfklkphoplpebaaGreatDoorPutL
namespace Go.Proofs.YtfklkphoplpebaaGreatDoor
open Go Go.RowKit Dig

theorem one_len : (dig (1 : Int).natAbs).length ≤ 100000 := Nat.le_trans (dig_len_le.2 (show 1 < bp 1 by decide)) (by omega)
theorem down_eq {n d : Int} (hd : 0 < d) : (if Int.tmod n d < 0 then Int.tdiv n d - 1 else Int.tdiv n d) = n / d := by
  have h1 := Int.tmod_add_mul_tdiv n d
  have h2 := Int.natAbs_tmod n d
  have h3 : n.natAbs % d.natAbs < d.natAbs := Nat.mod_lt _ (by omega)
  split
  · have := (Int.ediv_emod_unique (a := n) (r := Int.tmod n d + d) (q := Int.tdiv n d - 1) hd).2 ⟨by rw [Int.mul_sub]; omega, by omega, by omega⟩
    exact this.1.symm
  · have := (Int.ediv_emod_unique (a := n) (r := Int.tmod n d) (q := Int.tdiv n d) hd).2 ⟨by omega, by omega, by omega⟩
    exact this.1.symm
set_option maxRecDepth 100000 in
set_option maxHeartbeats 4000000 in
theorem RDown_any (w : World) (va vb : Value) (n d : Int) (ha : LV w w.heap.size va n) (hb : LV w w.heap.size vb d) (hd : 0 < d) (hln : (dig n.natAbs).length ≤ 90000) (hld : (dig d.natAbs).length ≤ 90000) :
    Calls Tryz.prog 99 #[va, vb] w fun e w' => Below w.heap.size w w' ∧ RetV w' (n / d) e := by
  obtain ⟨nn, An, ln, cn, rfl, Hn⟩ := ha.opened; obtain ⟨nd, Ad, ld, cd, rfl, Hd⟩ := hb.opened; clear ha hb
  have HLN := Lib.hid hln; have HLD := Lib.hid hld; clear hln hld
  obtain ⟨w0, hw0⟩ : ∃ w0 : World, w0 = (((w.alloc (.cells #[.bool nn, .slice An ln cn] 66)).alloc (.cells #[.bool nd, .slice Ad ld cd] 66)).alloc (.cells #[.bool false, .slice none 0 0] 66)) := ⟨_, rfl⟩
  have B0 := Lib.hid (show Below w.heap.size w w0 by rw [hw0]; (repeat' (first | exact Below.refl _ _ | refine Below.drew ?_ | refine Below.alloc ?_ (by first | exact Nat.le_refl _ | (simp; done) | (simp; omega)) _)))
  have z0 : w.heap.size + 3 ≤ w0.heap.size := by rw [hw0]; simp
  have Ln : LB w0 (w.heap.size) (.bool nn) (.slice An ln cn) := by rw [hw0]; (repeat (first | (refine LB.new' ?_; simp; done) | refine LB.alloc ?_ _))
  have Ld : LB w0 (w.heap.size + 1) (.bool nd) (.slice Ad ld cd) := by rw [hw0]; (repeat (first | (refine LB.new' ?_; simp; done) | refine LB.alloc ?_ _))
  have Lo : LB w0 (w.heap.size + 2) (.bool false) (.slice none 0 0) := by rw [hw0]; (repeat (first | (refine LB.new' ?_; simp; done) | refine LB.alloc ?_ _))
  replace Hn := Lib.hid (Hn.step B0.out); replace Hd := Lib.hid (Hd.step B0.out)
  obtain ⟨res, hres⟩ : ∃ x : Int, x = n / d := ⟨_, rfl⟩; rw [← hres]; rw [← down_eq hd] at hres
  have hd0 : d ≠ 0 := by omega
  go_enter Tryz.func99, Tryz.ntmps99
  go_upto_region 1 with (fail)
  rw [← hw0]; clear hw0
  have q2_0 := Ln.cell0
  have q2_1 := Ln.cell1
  have q2_2 := Ln.frozen 0
  have q2_3 := Ln.frozen 1
  have q2_lt := Ln.lt
  have q3_0 := Ld.cell0
  have q3_1 := Ld.cell1
  have q3_2 := Ld.frozen 0
  have q3_3 := Ld.frozen 1
  have q3_lt := Ld.lt
  go_wp2_with fail
  refine (RParts_any _ _ _ n d Hn.out Hd.out hd0 (by have := HLN.out; omega) HLD.out).mono ?_
  rintro e w1 ⟨hb1, v1, v2, rfl, hv1, hv2⟩
  have B4 := Lib.hid hb1
  have z4 := B4.out.size
  have HB5 := Lib.hid (B0.out.trans (B4.out.mono B0.out.size))
  clear hb1
  clear q2_0 q2_1 q2_2 q2_3 q2_lt q3_0 q3_1 q3_2 q3_3 q3_lt
  have HQL := Lib.hid (show (dig (Int.tdiv n d).natAbs).length ≤ 90000 from Nat.le_trans (dig_len_mono (by rw [Int.natAbs_tdiv]; exact Nat.div_le_self _ _)) HLN.out)
  obtain ⟨q, hq⟩ : ∃ x : Int, x = Int.tdiv n d := ⟨_, rfl⟩; rw [← hq] at hv1 hres HQL; obtain ⟨r, hr⟩ : ∃ x : Int, x = Int.tmod n d := ⟨_, rfl⟩; rw [← hr] at hv2 hres; clear hq hr hd hd0
  obtain ⟨n6, Ad6, l6, c6, rfl, hv6⟩ := hv1.opened
  have Hq_6 := Lib.hid hv6
  clear hv1 hv6
  obtain ⟨n7, Ad7, l7, c7, rfl, hv7⟩ := hv2.opened
  have Hr_7 := Lib.hid hv7
  clear hv2 hv7
  go_upto_region 2 with (fail)
  obtain ⟨w8, hW8⟩ : ∃ w8 : World, w8 = ((w1.alloc (.cells #[.bool n6, .slice Ad6 l6 c6] 66)).alloc (.cells #[.bool n7, .slice Ad7 l7 c7] 66)) := ⟨_, rfl⟩
  rw [← hW8]
  have hb8 : Below w1.heap.size w1 w8 := by rw [hW8]; (repeat' (first | exact Below.refl _ _ | refine Below.drew ?_ | refine Below.alloc ?_ (by first | exact Nat.le_refl _ | (simp; done) | (simp; omega)) _))
  have Lq_8 : LB w8 (w1.heap.size) (.bool n6) (.slice Ad6 l6 c6) := by rw [hW8]; (repeat (first | (refine LB.new' ?_; simp; done) | refine LB.alloc ?_ _))
  have Lr_8 : LB w8 (w1.heap.size + 1) (.bool n7) (.slice Ad7 l7 c7) := by rw [hW8]; (repeat (first | (refine LB.new' ?_; simp; done) | refine LB.alloc ?_ _))
  have za8 : w1.heap.size + 2 ≤ w8.heap.size := by rw [hW8]; simp
  have B9 := Lib.hid hb8
  have z9 := B9.out.size
  have HB10 := Lib.hid (HB5.out.trans (B9.out.mono HB5.out.size))
  clear hb8 hW8
  have Hr_11 := Lib.hid (LV.step Hr_7.out B9.out)
  have hnr := (LV.is Hr_11.out).1
  by_cases hneg : r < 0
  · obtain rfl : n7 = true := by rw [hnr]; exact decide_eq_true hneg
    have HRES := Lib.hid (show res = q - 1 by rw [hres, if_pos hneg]); clear hres hneg hnr
    have q12_0 := Lr_8.cell0
    have q12_1 := Lr_8.cell1
    have q12_2 := Lr_8.frozen 0
    have q12_3 := Lr_8.frozen 1
    have q12_lt := Lr_8.lt
    go_upto_region 3 with (fail)
    clear q12_0 q12_1 q12_2 q12_3 q12_lt
    refine Flow.run [⟨0, 15, fun fv fw => fv = .agg #[.bool n6, .slice Ad6 l6 c6]⟩, ⟨1, 16, fun fv fw => LV fw fw.heap.size fv 1⟩, ⟨2, 17, fun fv fw => LV fw fw.heap.size fv (q - 1)⟩] [] [] 1 (by kernel_rfl) (by kernel_rfl) (by kernel_rfl) (fun _ _ _ _ _ h => h) ?_ ?_ ?_ ?_
    · refine (all_cons (fun v w1 w2 h hb => h) (all_cons (fun v w1 w2 h hb => h.step hb) (all_cons (fun v w1 w2 h hb => h.step hb) all_nil)))
    · refine (all_cons ?_ (all_cons ?_ (all_cons ?_ all_nil)))
      · intro xs wk13 hBk hdep
        have HBk13 := Lib.hid hBk; have zk13 := hBk.size; clear hBk
        clear hdep
        refine wpOp_step (o := _) rfl (fun K hK => ?_)
        simp only [fpairs, List.cons_append, List.nil_append, List.map_cons, List.map_nil, putAll, Act.put, List.setIfInBounds_toArray, List.set_cons_zero, List.set_cons_succ]
        have Lq_14 := LB.step Lq_8 HBk13.out
        have q15_0 := Lq_14.cell0
        have q15_1 := Lq_14.cell1
        have q15_2 := Lq_14.frozen 0
        have q15_3 := Lq_14.frozen 1
        have q15_lt := Lq_14.lt
        go_simp
        refine hK _ _ ⟨.agg #[.bool n6, .slice Ad6 l6 c6], by kernel_rfl, Below.refl _ _, rfl, fun h => absurd (show false = true from h) Bool.false_ne_true⟩
      · intro xs wk16 hBk hdep
        have HBk16 := Lib.hid hBk; have zk16 := hBk.size; clear hBk
        clear hdep
        refine wpOp_step (o := _) rfl (fun K hK => ?_)
        simp only [fpairs, List.cons_append, List.nil_append, List.map_cons, List.map_nil, putAll, Act.put, List.setIfInBounds_toArray, List.set_cons_zero, List.set_cons_succ]
        go_simp
        (with_reducible refine (ROf_any _ 1 (by decide) (by decide)).mono ?_)
        rintro e wc17 ⟨hb17, v17, rfl, hv17⟩
        refine hK _ _ ⟨v17, by kernel_rfl, hb17, hv17, fun h => absurd (show false = true from h) Bool.false_ne_true⟩
      · intro xs wk18 hBk hdep
        have HBk18 := Lib.hid hBk; have zk18 := hBk.size; clear hBk
        have f0 : (xs 0) = .agg #[.bool n6, .slice Ad6 l6 c6] := hdep _ (List.mem_of_getElem? (i := 0) rfl) (by kernel_rfl)
        have f1 : LV wk18 wk18.heap.size (xs 1) 1 := hdep _ (List.mem_of_getElem? (i := 1) rfl) (by kernel_rfl)
        clear hdep
        refine wpOp_step (o := _) rfl (fun K hK => ?_)
        simp only [fpairs, List.cons_append, List.nil_append, List.map_cons, List.map_nil, putAll, Act.put, List.setIfInBounds_toArray, List.set_cons_zero, List.set_cons_succ]
        go_simp
        have P2_4_19 := Lib.hid (B9.out.trans (HBk18.out.mono B9.out.size))
        have Hq_20 := Lib.hid (LV.step Hq_6.out P2_4_19.out)
        (with_reducible refine (RDiff_any _ _ _ q 1 (Hq_20.out) f1 (by have := HQL.out; omega) one_len).mono ?_)
        rintro e wc21 ⟨hb21, v21, rfl, hv21⟩
        refine hK _ _ ⟨v21, by simp only [fpairs, List.cons_append, List.nil_append, List.map_cons, List.map_nil, putAll, Act.put, List.setIfInBounds_toArray, List.set_cons_zero, List.set_cons_succ, f0], hb21, hv21, fun h => absurd (show false = true from h) Bool.false_ne_true⟩
    · exact all_nil
    · intro xs wf22 hbf hf hn hd
      have f0 : (xs 0) = .agg #[.bool n6, .slice Ad6 l6 c6] := hf _ (List.mem_of_getElem? (i := 0) rfl)
      have f1 : LV wf22 wf22.heap.size (xs 1) 1 := hf _ (List.mem_of_getElem? (i := 1) rfl)
      have f2 : LV wf22 wf22.heap.size (xs 2) (q - 1) := hf _ (List.mem_of_getElem? (i := 2) rfl)
      clear hf hn hd
      simp only [fpairs, List.cons_append, List.nil_append, List.map_cons, List.map_nil, putAll, Act.put, List.setIfInBounds_toArray, List.set_cons_zero, List.set_cons_succ]
      have B23 := Lib.hid hbf
      have z23 := B23.out.size
      have HB24 := Lib.hid (HB10.out.trans (B23.out.mono HB10.out.size))
      clear hbf
      generalize xs 0 = x0 at *
      generalize xs 1 = x1 at *
      generalize xs 2 = x2 at *
      obtain rfl := f0
      clear f1
      obtain ⟨n25, Ad25, l25, c25, rfl, hv25⟩ := f2.opened
      have Hs_25 := Lib.hid hv25
      clear f2 hv25
      have Lq_26 := LB.step Lq_8 B23.out
      have q27_0 := Lq_26.cell0
      have q27_1 := Lq_26.cell1
      have q27_2 := Lq_26.frozen 0
      have q27_3 := Lq_26.frozen 1
      have q27_lt := Lq_26.lt
      refine Early.next (i := 3) (by kernel_rfl) rfl (fun K hK => ?_)
      go_simp
      refine hK _ _ (fun _ => trivial) ?_
      clear hK K
      (try simp only [Act.put, List.setIfInBounds_toArray, List.set_cons_zero, List.set_cons_succ])
      clear q27_0 q27_1 q27_2 q27_3 q27_lt
      refine Early.done (by kernel_rfl) ?_ _
      (try simp only [Exit.then])
      have P1_3_28 := Lib.hid (B4.out.trans (B9.out.mono B4.out.size))
      have P1_4_29 := Lib.hid (P1_3_28.out.trans (B23.out.mono P1_3_28.out.size))
      have Lo_30 := LB.step Lo P1_4_29.out
      obtain ⟨w31, hW31⟩ : ∃ w31 : World, w31 = (wf22.setCell ⟨w1.heap.size, 0, none⟩ (.bool n25)).setCell ⟨w1.heap.size, 1, none⟩ (.slice Ad25 l25 c25) := ⟨_, rfl⟩
      rw [← hW31]
      have S31 := Lib.hid (show Soft wf22 w31 by rw [hW31]; exact soft_put Lq_26)
      have Lo_31 : LB w31 (w.heap.size + 2) (.bool false) (.slice none 0 0) := by rw [hW31]; exact lb_far (lb_far Lo_30 (by omega)) (by omega)
      have Lq_31 : LB w31 (w1.heap.size) (.bool n25) (.slice Ad25 l25 c25) := by rw [hW31]; exact (Lq_26.set0 _).set1 _
      have HBP31 := Lib.hid (show Below w.heap.size w w31 by rw [hW31]; exact below_set1 (below_set1 HB24.out (by omega) _ _) (by omega) _ _)
      have zw31 : w31.heap.size = wf22.heap.size := by rw [hW31]; simp [World.setCell]
      clear hW31
      have q32_0 := Lq_31.cell0
      have q32_1 := Lq_31.cell1
      have q32_2 := Lq_31.frozen 0
      have q32_3 := Lq_31.frozen 1
      have q32_lt := Lq_31.lt
      have q33_0 := Lo_31.cell0
      have q33_1 := Lo_31.cell1
      have q33_2 := Lo_31.frozen 0
      have q33_3 := Lo_31.frozen 1
      have q33_lt := Lo_31.lt
      go_wp2
      (try simp only [Exit.inBlock, Exit.then])
      have Hs_34 := Lib.hid (LV.soft Hs_25.out (S31.out))
      rw [HRES.out]; exact end_long rfl Lo_31 HBP31.out (by omega) Hs_34.out rfl
  · obtain rfl : n7 = false := by rw [hnr]; exact decide_eq_false hneg
    have HRES := Lib.hid (show res = q by rw [hres, if_neg hneg]); clear hres hneg hnr
    have q35_0 := Lr_8.cell0
    have q35_1 := Lr_8.cell1
    have q35_2 := Lr_8.frozen 0
    have q35_3 := Lr_8.frozen 1
    have q35_lt := Lr_8.lt
    have q36_0 := Lq_8.cell0
    have q36_1 := Lq_8.cell1
    have q36_2 := Lq_8.frozen 0
    have q36_3 := Lq_8.frozen 1
    have q36_lt := Lq_8.lt
    have P1_3_37 := Lib.hid (B4.out.trans (B9.out.mono B4.out.size))
    have Lo_38 := LB.step Lo P1_3_37.out
    have q39_0 := Lo_38.cell0
    have q39_1 := Lo_38.cell1
    have q39_2 := Lo_38.frozen 0
    have q39_3 := Lo_38.frozen 1
    have q39_lt := Lo_38.lt
    go_wp2
    (try simp only [Exit.inBlock, Exit.then])
    have Hq_40 := Lib.hid (LV.step Hq_6.out B9.out)
    rw [HRES.out]; exact end_long rfl Lo_38 HB10.out (by omega) Hq_40.out rfl
end Go.Proofs.YtfklkphoplpebaaGreatDoor
