/- The reference's rounded, Fixed and Both (layer 05; written by gen_rround.py). -/
import Derived.Test.YtfklkphoplpebaaGreatDoorRDown
import Derived.Test.YtfklkphoplpebaaGreatDoorRTextD
import Derived.Test.YtfklkphoplpebaaGreatDoorDecE
import Derived.Test.YtfklkphoplpebaaGreatDoorDecQ
namespace Go.Proofs.YtfklkphoplpebaaGreatDoor
open Go Go.RowKit Dig

theorem big_len : (dig (4294967296 : Int).natAbs).length ≤ 90000 := Nat.le_trans (dig_len_le.2 (show 4294967296 < bp 2 by decide)) (by omega)
theorem mid_len {z : Int} (h : z.natAbs < 1000000000000000000000000000000000000) : (dig z.natAbs).length ≤ 4 := dig_len_le.2 (show z.natAbs < bp 4 from h)
theorem fix_mul' {v : Int} {k d : Nat} (hv : fixOk v) (hd : d ≤ 12) (hk : k ≤ d) : (dig (v * ((10 ^ k : Nat) : Int)).natAbs).length ≤ 4 := mid_len (by have := fix_mul hv (show k ≤ 12 by omega); omega)
set_option maxRecDepth 100000 in
set_option maxHeartbeats 4000000 in
theorem Rrounded_any (w : World) (v : Int) (hv : fixOk v) (d : Nat) (hd : d ≤ 12) (up : Bool) :
    Calls Tryz.prog 48 #[.int .i64 v, .int .i64 (d : Int), .bool up] w fun e w' => Below w.heap.size w w' ∧ ∃ t : ByteArray, e = .returned (.string t) ∧ t.data.toList = decT (rndZ v d up) d := by
  have HV := Lib.hid hv; have HD := Lib.hid hd; have hv0 := hv.1; have hv1 := hv.2; clear hv
  go_enter Tryz.func48, Tryz.ntmps48
  go_wp2_with fail
  refine (ROf_any _ v (by omega) (by omega)).mono ?_
  rintro e w1 ⟨hb1, v1, rfl, hv1'⟩
  have B2 := Lib.hid hb1
  have z2 := B2.out.size
  clear hb1
  rw [show v = v * ((10 ^ 0 : Nat) : Int) by simp] at hv1'
  obtain ⟨n3, Ad3, l3, c3, rfl, hv3⟩ := hv1'.opened
  have Hn_3 := Lib.hid hv3
  clear hv1' hv3
  go_upto_region 2 with (fail)
  obtain ⟨w4, hW4⟩ : ∃ w4 : World, w4 = (w1.alloc (.cells #[.bool n3, .slice Ad3 l3 c3] 66)) := ⟨_, rfl⟩
  rw [← hW4]
  have hb4 : Below w1.heap.size w1 w4 := by rw [hW4]; (repeat' (first | exact Below.refl _ _ | refine Below.drew ?_ | refine Below.alloc ?_ (by first | exact Nat.le_refl _ | (simp; done) | (simp; omega)) _))
  have Ln_4 : LB w4 (w1.heap.size) (.bool n3) (.slice Ad3 l3 c3) := by rw [hW4]; (repeat (first | (refine LB.new' ?_; simp; done) | refine LB.alloc ?_ _))
  have za4 : w1.heap.size + 1 ≤ w4.heap.size := by rw [hW4]; simp
  have B5 := Lib.hid hb4
  have z5 := B5.out.size
  have HB6 := Lib.hid (B2.out.trans (B5.out.mono B2.out.size))
  clear hb4 hW4
  have Hn_7 := Lib.hid (LV.step Hn_3.out B5.out)
  go_wp2
  go_loopw [8] (fun iv wr => ∃ (k : Nat) (nn : Bool) (An : Option Addr) (ln cn : Nat), k ≤ d ∧ iv = .int .i64 k ∧ LB wr (w1.heap.size) (.bool nn) (.slice An ln cn) ∧ Hid (LV wr wr.heap.size (.agg #[.bool nn, .slice An ln cn]) (v * ((10 ^ k : Nat) : Int))) ∧ Hid (Below w.heap.size w wr)) (fun iv _ => d - (intOf iv).toNat)
  case atStart => exact ⟨0, _, _, _, _, Nat.zero_le _, rfl, Ln_4, Lib.hid Hn_7.out, Lib.hid HB6.out⟩
  case round =>
    obtain ⟨k, nn, An, ln, cn, hk, rfl, Ln, HN, HB⟩ := hrel
    have hltn := Ln.lt
    by_cases hkd : k < d
    · have hkd2 : (k : Int) < (d : Int) := by omega
      go_upto_region 5 with (fail)
      refine Flow.run [⟨0, 16, fun fv fw => fv = .agg #[.bool nn, .slice An ln cn]⟩, ⟨1, 17, fun fv fw => LV fw fw.heap.size fv 10⟩, ⟨2, 18, fun fv fw => LV fw fw.heap.size fv (v * ((10 ^ (k + 1) : Nat) : Int))⟩] [] [] 1 (by kernel_rfl) (by kernel_rfl) (by kernel_rfl) (fun _ _ _ _ _ h => h) ?_ ?_ ?_ ?_
      · refine (all_cons (fun v w1 w2 h hb => h) (all_cons (fun v w1 w2 h hb => h.step hb) (all_cons (fun v w1 w2 h hb => h.step hb) all_nil)))
      · refine (all_cons ?_ (all_cons ?_ (all_cons ?_ all_nil)))
        · intro xs wk8 hBk hdep
          have HBk8 := Lib.hid hBk; have zk8 := hBk.size; clear hBk
          clear hdep
          refine wpOp_step (o := _) rfl (fun K hK => ?_)
          simp only [fpairs, List.cons_append, List.nil_append, List.map_cons, List.map_nil, putAll, Act.put, List.setIfInBounds_toArray, List.set_cons_zero, List.set_cons_succ]
          have Ln_9 := LB.step Ln HBk8.out
          have q10_0 := Ln_9.cell0
          have q10_1 := Ln_9.cell1
          have q10_2 := Ln_9.frozen 0
          have q10_3 := Ln_9.frozen 1
          have q10_lt := Ln_9.lt
          go_simp
          refine hK _ _ ⟨.agg #[.bool nn, .slice An ln cn], by kernel_rfl, Below.refl _ _, rfl, fun h => absurd (show false = true from h) Bool.false_ne_true⟩
        · intro xs wk11 hBk hdep
          have HBk11 := Lib.hid hBk; have zk11 := hBk.size; clear hBk
          clear hdep
          refine wpOp_step (o := _) rfl (fun K hK => ?_)
          simp only [fpairs, List.cons_append, List.nil_append, List.map_cons, List.map_nil, putAll, Act.put, List.setIfInBounds_toArray, List.set_cons_zero, List.set_cons_succ]
          go_simp
          (with_reducible refine (ROf_any _ 10 (by decide) (by decide)).mono ?_)
          rintro e wc12 ⟨hb12, v12, rfl, hv12⟩
          refine hK _ _ ⟨v12, by kernel_rfl, hb12, hv12, fun h => absurd (show false = true from h) Bool.false_ne_true⟩
        · intro xs wk13 hBk hdep
          have HBk13 := Lib.hid hBk; have zk13 := hBk.size; clear hBk
          have f0 : (xs 0) = .agg #[.bool nn, .slice An ln cn] := hdep _ (List.mem_of_getElem? (i := 0) rfl) (by kernel_rfl)
          have f1 : LV wk13 wk13.heap.size (xs 1) 10 := hdep _ (List.mem_of_getElem? (i := 1) rfl) (by kernel_rfl)
          clear hdep
          refine wpOp_step (o := _) rfl (fun K hK => ?_)
          simp only [fpairs, List.cons_append, List.nil_append, List.map_cons, List.map_nil, putAll, Act.put, List.setIfInBounds_toArray, List.set_cons_zero, List.set_cons_succ]
          go_simp
          have Hn_14 := Lib.hid (LV.step HN.out HBk13.out)
          (with_reducible refine (RProd_any _ _ _ (v * ((10 ^ k : Nat) : Int)) 10 (Hn_14.out) f1 (Nat.le_trans (fix_mul' HV.out HD.out hk) (by omega)) ten_len).mono ?_)
          rintro e wc15 ⟨hb15, v15, rfl, hv15⟩
          rw [mul_next] at hv15
          refine hK _ _ ⟨v15, by simp only [fpairs, List.cons_append, List.nil_append, List.map_cons, List.map_nil, putAll, Act.put, List.setIfInBounds_toArray, List.set_cons_zero, List.set_cons_succ, f0], hb15, hv15, fun h => absurd (show false = true from h) Bool.false_ne_true⟩
      · exact all_nil
      · intro xs wf16 hbf hf hn hd
        have f0 : (xs 0) = .agg #[.bool nn, .slice An ln cn] := hf _ (List.mem_of_getElem? (i := 0) rfl)
        have f1 : LV wf16 wf16.heap.size (xs 1) 10 := hf _ (List.mem_of_getElem? (i := 1) rfl)
        have f2 : LV wf16 wf16.heap.size (xs 2) (v * ((10 ^ (k + 1) : Nat) : Int)) := hf _ (List.mem_of_getElem? (i := 2) rfl)
        clear hf hn hd
        simp only [fpairs, List.cons_append, List.nil_append, List.map_cons, List.map_nil, putAll, Act.put, List.setIfInBounds_toArray, List.set_cons_zero, List.set_cons_succ]
        have B17 := Lib.hid hbf
        have z17 := B17.out.size
        have HB18 := Lib.hid (HB.out.trans (B17.out.mono HB.out.size))
        clear hbf
        generalize xs 0 = x0 at *
        generalize xs 1 = x1 at *
        generalize xs 2 = x2 at *
        obtain rfl := f0
        clear f1
        obtain ⟨n19, Ad19, l19, c19, rfl, hv19⟩ := f2.opened
        have Hm_19 := Lib.hid hv19
        clear f2 hv19
        have Ln_20 := LB.step Ln B17.out
        have q21_0 := Ln_20.cell0
        have q21_1 := Ln_20.cell1
        have q21_2 := Ln_20.frozen 0
        have q21_3 := Ln_20.frozen 1
        have q21_lt := Ln_20.lt
        refine Early.next (i := 3) (by kernel_rfl) rfl (fun K hK => ?_)
        go_simp
        refine hK _ _ (fun _ => trivial) ?_
        clear hK K
        (try simp only [Act.put, List.setIfInBounds_toArray, List.set_cons_zero, List.set_cons_succ])
        clear q21_0 q21_1 q21_2 q21_3 q21_lt
        refine Early.done (by kernel_rfl) ?_ _
        (try simp only [Exit.then])
        obtain ⟨w22, hW22⟩ : ∃ w22 : World, w22 = (wf16.setCell ⟨w1.heap.size, 0, none⟩ (.bool n19)).setCell ⟨w1.heap.size, 1, none⟩ (.slice Ad19 l19 c19) := ⟨_, rfl⟩
        rw [← hW22]
        have S22 := Lib.hid (show Soft wf16 w22 by rw [hW22]; exact soft_put Ln_20)
        have Ln_22 : LB w22 (w1.heap.size) (.bool n19) (.slice Ad19 l19 c19) := by rw [hW22]; exact (Ln_20.set0 _).set1 _
        have HBP22 := Lib.hid (show Below w.heap.size w w22 by rw [hW22]; exact below_set1 (below_set1 HB18.out (by omega) _ _) (by omega) _ _)
        have zw22 : w22.heap.size = wf16.heap.size := by rw [hW22]; simp [World.setCell]
        clear hW22
        go_wp2
        go_roundw
        have Hm_23 := Lib.hid (LV.soft Hm_19.out (S22.out))
        case rel => exact ⟨k + 1, _, _, _, _, by omega, by go_num, Ln_22, Lib.hid Hm_23.out, Lib.hid HBP22.out⟩
        case measure => simp [intOf]; omega
    · obtain rfl : k = d := by omega
      have HK := Lib.hid (fix_mul' (k := k) HV.out HD.out (Nat.le_refl _)); have HK2 := Lib.hid (fix_mul HV.out HD.out)
      have HR := Lib.hid (show ∀ up, rndZ v k up = if up then -((-(v * ((10 ^ k : Nat) : Int))) / 4294967296) else (v * ((10 ^ k : Nat) : Int)) / 4294967296 from fun _ => rfl)
      obtain ⟨n, hn⟩ : ∃ n : Int, n = v * ((10 ^ k : Nat) : Int) := ⟨_, rfl⟩; rw [← hn] at HN HK HK2 HR; clear hn hkd
      cases up
      · obtain ⟨s, hs⟩ : ∃ s : Int, s = n / 4294967296 := ⟨_, rfl⟩; have HS := Lib.hid hs; have HRS := Lib.hid (show rndZ v k false = s by rw [HR.out, hs]; rfl); have HSL := Lib.hid (show (dig s.natAbs).length ≤ 4 from mid_len (by have := HK2.out; omega)); clear hs
        go_upto_region 8 with (fail)
        refine Flow.run [⟨0, 27, fun fv fw => fv = .agg #[.bool nn, .slice An ln cn]⟩, ⟨1, 28, fun fv fw => LV fw fw.heap.size fv 4294967296⟩, ⟨2, 29, fun fv fw => LV fw fw.heap.size fv s⟩, ⟨3, 30, fun fv fw => fv = .int .i64 (k : Int)⟩, ⟨4, 31, fun fv fw => ∃ fs : ByteArray, fv = .string fs ∧ fs.data.toList = decT s k⟩] [] [] 1 (by kernel_rfl) (by kernel_rfl) (by kernel_rfl) (fun _ _ _ _ _ h => h) ?_ ?_ ?_ ?_
        · refine (all_cons (fun v w1 w2 h hb => h) (all_cons (fun v w1 w2 h hb => h.step hb) (all_cons (fun v w1 w2 h hb => h.step hb) (all_cons (fun v w1 w2 h hb => h) (all_cons (fun v w1 w2 h hb => h) all_nil)))))
        · refine (all_cons ?_ (all_cons ?_ (all_cons ?_ (all_cons ?_ (all_cons ?_ all_nil)))))
          · intro xs wk24 hBk hdep
            have HBk24 := Lib.hid hBk; have zk24 := hBk.size; clear hBk
            clear hdep
            refine wpOp_step (o := _) rfl (fun K hK => ?_)
            simp only [fpairs, List.cons_append, List.nil_append, List.map_cons, List.map_nil, putAll, Act.put, List.setIfInBounds_toArray, List.set_cons_zero, List.set_cons_succ]
            have Ln_25 := LB.step Ln HBk24.out
            have q26_0 := Ln_25.cell0
            have q26_1 := Ln_25.cell1
            have q26_2 := Ln_25.frozen 0
            have q26_3 := Ln_25.frozen 1
            have q26_lt := Ln_25.lt
            go_simp
            refine hK _ _ ⟨.agg #[.bool nn, .slice An ln cn], by kernel_rfl, Below.refl _ _, rfl, fun h => absurd (show false = true from h) Bool.false_ne_true⟩
          · intro xs wk27 hBk hdep
            have HBk27 := Lib.hid hBk; have zk27 := hBk.size; clear hBk
            clear hdep
            refine wpOp_step (o := _) rfl (fun K hK => ?_)
            simp only [fpairs, List.cons_append, List.nil_append, List.map_cons, List.map_nil, putAll, Act.put, List.setIfInBounds_toArray, List.set_cons_zero, List.set_cons_succ]
            go_simp
            (with_reducible refine (ROf_any _ 4294967296 (by decide) (by decide)).mono ?_)
            rintro e wc28 ⟨hb28, v28, rfl, hv28⟩
            refine hK _ _ ⟨v28, by kernel_rfl, hb28, hv28, fun h => absurd (show false = true from h) Bool.false_ne_true⟩
          · intro xs wk29 hBk hdep
            have HBk29 := Lib.hid hBk; have zk29 := hBk.size; clear hBk
            have f0 : (xs 0) = .agg #[.bool nn, .slice An ln cn] := hdep _ (List.mem_of_getElem? (i := 0) rfl) (by kernel_rfl)
            have f1 : LV wk29 wk29.heap.size (xs 1) 4294967296 := hdep _ (List.mem_of_getElem? (i := 1) rfl) (by kernel_rfl)
            clear hdep
            refine wpOp_step (o := _) rfl (fun K hK => ?_)
            simp only [fpairs, List.cons_append, List.nil_append, List.map_cons, List.map_nil, putAll, Act.put, List.setIfInBounds_toArray, List.set_cons_zero, List.set_cons_succ]
            go_simp
            have Hn_30 := Lib.hid (LV.step HN.out HBk29.out)
            (with_reducible refine (RDown_any _ _ _ n 4294967296 (Hn_30.out) f1 (by decide) (Nat.le_trans HK.out (by omega)) big_len).mono ?_)
            rintro e wc31 ⟨hb31, v31, rfl, hv31⟩
            rw [← HS.out] at hv31
            refine hK _ _ ⟨v31, by simp only [fpairs, List.cons_append, List.nil_append, List.map_cons, List.map_nil, putAll, Act.put, List.setIfInBounds_toArray, List.set_cons_zero, List.set_cons_succ, f0], hb31, hv31, fun h => absurd (show false = true from h) Bool.false_ne_true⟩
          · intro xs wk32 hBk hdep
            have HBk32 := Lib.hid hBk; have zk32 := hBk.size; clear hBk
            clear hdep
            refine wpOp_step (o := _) rfl (fun K hK => ?_)
            simp only [fpairs, List.cons_append, List.nil_append, List.map_cons, List.map_nil, putAll, Act.put, List.setIfInBounds_toArray, List.set_cons_zero, List.set_cons_succ]
            go_simp
            refine hK _ _ ⟨.int .i64 (k : Int), by kernel_rfl, Below.refl _ _, rfl, fun h => absurd (show false = true from h) Bool.false_ne_true⟩
          · intro xs wk33 hBk hdep
            have HBk33 := Lib.hid hBk; have zk33 := hBk.size; clear hBk
            have f2 : LV wk33 wk33.heap.size (xs 2) s := hdep _ (List.mem_of_getElem? (i := 2) rfl) (by kernel_rfl)
            have f3 : (xs 3) = .int .i64 (k : Int) := hdep _ (List.mem_of_getElem? (i := 3) rfl) (by kernel_rfl)
            clear hdep
            refine wpOp_step (o := _) rfl (fun K hK => ?_)
            simp only [fpairs, List.cons_append, List.nil_append, List.map_cons, List.map_nil, putAll, Act.put, List.setIfInBounds_toArray, List.set_cons_zero, List.set_cons_succ]
            go_simp
            (with_reducible refine (RWritten_any _ _ s f2 (Nat.le_trans HSL.out (by omega)) k (by have := HD.out; omega)).mono ?_)
            rintro e wc34 ⟨hb34, t, rfl, ht⟩
            refine hK _ _ ⟨.string t, by simp only [fpairs, List.cons_append, List.nil_append, List.map_cons, List.map_nil, putAll, Act.put, List.setIfInBounds_toArray, List.set_cons_zero, List.set_cons_succ, f3], hb34, ⟨t, rfl, ht⟩, fun h => absurd (show false = true from h) Bool.false_ne_true⟩
        · exact all_nil
        · intro xs wf35 hbf hf hn hd
          have f0 : (xs 0) = .agg #[.bool nn, .slice An ln cn] := hf _ (List.mem_of_getElem? (i := 0) rfl)
          have f1 : LV wf35 wf35.heap.size (xs 1) 4294967296 := hf _ (List.mem_of_getElem? (i := 1) rfl)
          have f2 : LV wf35 wf35.heap.size (xs 2) s := hf _ (List.mem_of_getElem? (i := 2) rfl)
          have f3 : (xs 3) = .int .i64 (k : Int) := hf _ (List.mem_of_getElem? (i := 3) rfl)
          have f4 : ∃ fs : ByteArray, (xs 4) = .string fs ∧ fs.data.toList = decT s k := hf _ (List.mem_of_getElem? (i := 4) rfl)
          clear hf hn hd
          simp only [fpairs, List.cons_append, List.nil_append, List.map_cons, List.map_nil, putAll, Act.put, List.setIfInBounds_toArray, List.set_cons_zero, List.set_cons_succ]
          have B36 := Lib.hid hbf
          have z36 := B36.out.size
          have HB37 := Lib.hid (HB.out.trans (B36.out.mono HB.out.size))
          clear hbf
          generalize xs 0 = x0 at *
          generalize xs 1 = x1 at *
          generalize xs 2 = x2 at *
          generalize xs 3 = x3 at *
          generalize xs 4 = x4 at *
          obtain rfl := f0
          clear f1
          clear f2
          obtain rfl := f3
          obtain ⟨t, rfl, ht⟩ := f4
          refine Early.next (i := 5) (by kernel_rfl) rfl (fun K hK => ?_)
          go_simp
          refine hK _ _ (fun _ => trivial) ?_
          clear hK K
          (try simp only [Act.put, List.setIfInBounds_toArray, List.set_cons_zero, List.set_cons_succ])
          refine Early.done (by kernel_rfl) ?_ _
          (try simp only [Exit.then])
          go_wp2
          go_ret
          exact ⟨HB37.out, t, rfl, by rw [ht, HRS.out]⟩
      · obtain ⟨s, hs⟩ : ∃ s : Int, s = (-n) / 4294967296 := ⟨_, rfl⟩; have HS := Lib.hid hs; have HRS := Lib.hid (show rndZ v k true = -s by rw [HR.out, hs]; rfl); have HSL := Lib.hid (show (dig s.natAbs).length ≤ 4 from mid_len (by have := HK2.out; omega)); clear hs
        have HKN := Lib.hid (show (dig (-n).natAbs).length ≤ 4 by rw [Int.natAbs_neg]; exact HK.out); have HSN := Lib.hid (show (dig (-s).natAbs).length ≤ 4 by rw [Int.natAbs_neg]; exact HSL.out)
        have q39_0 := Ln.cell0
        have q39_1 := Ln.cell1
        have q39_2 := Ln.frozen 0
        have q39_3 := Ln.frozen 1
        have q39_lt := Ln.lt
        go_wp2_with fail
        refine (RMinus_any _ _ n HN.out (Nat.le_trans HK.out (by omega))).mono ?_
        rintro e w38 ⟨hb38, v3, rfl, hv3⟩
        have B40 := Lib.hid hb38
        have z40 := B40.out.size
        have HB41 := Lib.hid (HB.out.trans (B40.out.mono HB.out.size))
        clear hb38
        clear q39_0 q39_1 q39_2 q39_3 q39_lt
        obtain ⟨m, hm⟩ : ∃ m : Int, m = -n := ⟨_, rfl⟩; rw [← hm] at hv3 HS HKN; clear hm
        obtain ⟨n42, Ad42, l42, c42, rfl, hv42⟩ := hv3.opened
        have Hm_42 := Lib.hid hv42
        clear hv3 hv42
        go_wp2_with fail
        refine (ROf_any _ 4294967296 (by decide) (by decide)).mono ?_
        rintro e w43 ⟨hb43, v4, rfl, hv4⟩
        have B44 := Lib.hid hb43
        have z44 := B44.out.size
        have HB45 := Lib.hid (HB41.out.trans (B44.out.mono HB41.out.size))
        clear hb43
        obtain ⟨n46, Ad46, l46, c46, rfl, hv46⟩ := hv4.opened
        have Ho_46 := Lib.hid hv46
        clear hv4 hv46
        go_wp2_with fail
        have Hm_48 := Lib.hid (LV.step Hm_42.out B44.out)
        refine (RDown_any _ _ _ m 4294967296 (Hm_48.out) Ho_46.out (by decide) (Nat.le_trans HKN.out (by omega)) big_len).mono ?_
        rintro e w47 ⟨hb47, v5, rfl, hv5⟩
        have B49 := Lib.hid hb47
        have z49 := B49.out.size
        have HB50 := Lib.hid (HB45.out.trans (B49.out.mono HB45.out.size))
        clear hb47
        rw [← HS.out] at hv5
        obtain ⟨n51, Ad51, l51, c51, rfl, hv51⟩ := hv5.opened
        have Hs_51 := Lib.hid hv51
        clear hv5 hv51
        go_wp2_with fail
        refine (RMinus_any _ _ s Hs_51.out (Nat.le_trans HSL.out (by omega))).mono ?_
        rintro e w52 ⟨hb52, v6, rfl, hv6⟩
        have B53 := Lib.hid hb52
        have z53 := B53.out.size
        have HB54 := Lib.hid (HB50.out.trans (B53.out.mono HB50.out.size))
        clear hb52
        obtain ⟨u, hu⟩ : ∃ u : Int, u = -s := ⟨_, rfl⟩; rw [← hu] at hv6 HRS HSN; clear hu
        obtain ⟨n55, Ad55, l55, c55, rfl, hv55⟩ := hv6.opened
        have Hu_55 := Lib.hid hv55
        clear hv6 hv55
        go_wp2_with fail
        refine (RWritten_any _ _ u Hu_55.out (Nat.le_trans HSN.out (by omega)) k (by have := HD.out; omega)).mono ?_
        rintro e w56 ⟨hb56, t, rfl, ht⟩
        have B57 := Lib.hid hb56
        have z57 := B57.out.size
        have HB58 := Lib.hid (HB54.out.trans (B57.out.mono HB54.out.size))
        clear hb56
        go_wp2
        go_ret
        exact ⟨HB58.out, t, rfl, by rw [ht, HRS.out]⟩
set_option maxRecDepth 100000 in
set_option maxHeartbeats 4000000 in
theorem RFixed_any (w : World) (v d : Int) (up : Bool) :
    Calls Tryz.prog 19 #[.int .i64 v, .int .i64 d, .bool up] w fun e w' => Below w.heap.size w w' ∧ AnsS (fixedD v d up) e := by
  by_cases hv : fixOk v
  · by_cases hd : 0 ≤ d ∧ d ≤ 12
    · obtain ⟨k, rfl⟩ : ∃ k : Nat, d = (k : Int) := ⟨d.toNat, by omega⟩
      have HT := Lib.hid (show fixedD v (k : Int) up = (decT (rndZ v k up) k, 0) by unfold fixedD; rw [if_pos ⟨hv, hd⟩, Int.toNat_natCast]); rw [HT.out]
      have e1 : (0 : Int) ≤ (k : Int) := by omega
      have e2 : (k : Int) ≤ 12 := by omega
      have HK := Lib.hid (show k ≤ 12 by omega); have HV := Lib.hid hv; clear hd hv HT
      go_enter Tryz.func19, Tryz.ntmps19
      go_wp2_with fail
      refine (FRight_yes _ v HV.out).mono ?_
      rintro e w1 ⟨rfl, hw⟩; rw [hw]; clear hw w1
      go_wp2_with fail
      refine (Rrounded_any _ v HV.out k HK.out up).mono ?_
      rintro e w7 ⟨hb7, t, rfl, ht⟩
      have HB7 := Lib.hid hb7; clear hb7
      go_wp2
      go_ret2
      exact ⟨HB7.out, _, rfl, ht⟩
    · have HT := Lib.hid (show fixedD v d up = ([], 2) by unfold fixedD; rw [if_neg (fun h => hd h.2)]); rw [HT.out]
      have HV := Lib.hid hv; clear HT hv
      by_cases h1 : d < 0
      · clear hd
        go_enter Tryz.func19, Tryz.ntmps19
        go_wp2_with fail
        refine (FRight_yes _ v HV.out).mono ?_
        rintro e w1 ⟨rfl, hw⟩; rw [hw]; clear hw w1
        go_wp2
        go_ret2
        exact ⟨Below.refl _ _, _, rfl, rfl⟩
      · have h2 : 12 < d := by omega
        clear hd
        go_enter Tryz.func19, Tryz.ntmps19
        go_wp2_with fail
        refine (FRight_yes _ v HV.out).mono ?_
        rintro e w1 ⟨rfl, hw⟩; rw [hw]; clear hw w1
        go_wp2
        go_ret2
        exact ⟨Below.refl _ _, _, rfl, rfl⟩
  · have HT := Lib.hid (show fixedD v d up = ([], 2) by unfold fixedD; rw [if_neg (fun h => hv h.1)]); rw [HT.out]
    have HV := Lib.hid hv; clear HT hv
    go_enter Tryz.func19, Tryz.ntmps19
    go_wp2_with fail
    refine (FRight_no _ v HV.out).mono ?_
    rintro e w1 ⟨rfl, hw⟩; rw [hw]; clear hw w1
    go_wp2
    go_ret2
    exact ⟨Below.refl _ _, _, rfl, rfl⟩
theorem SRight_yes (w : World) (lo hi : Int) (h : spanOk lo hi) : Calls Tryz.prog 50 #[.agg #[.int .i64 lo, .int .i64 hi]] w fun e w' => Below w.heap.size w w' ∧ e = .returned (.bool true) := by
  have hb := below_alloc1 (Below.refl w.heap.size w) (.cells #[.int .i64 lo, .int .i64 hi] 37)
  have HB := Lib.hid hb; clear hb
  have Hlo := Lib.hid (show fixOk lo by unfold spanOk at h; unfold fixOk; omega); have Hhi := Lib.hid (show fixOk hi by unfold spanOk at h; unfold fixOk; omega); have h2 := h.2.1; clear h
  go_enter Tryz.func50, Tryz.ntmps50
  go_wp2_with fail
  refine (FRight_yes _ lo Hlo.out).mono ?_
  rintro e w1 ⟨rfl, hw⟩; rw [hw]; clear hw w1
  go_wp2_with fail
  refine (FRight_yes _ hi Hhi.out).mono ?_
  rintro e w1 ⟨rfl, hw⟩; rw [hw]; clear hw w1
  go_wp2
  go_ret
  exact ⟨HB.out, rfl⟩
theorem SRight_no (w : World) (lo hi : Int) (h : ¬ spanOk lo hi) : Calls Tryz.prog 50 #[.agg #[.int .i64 lo, .int .i64 hi]] w fun e w' => Below w.heap.size w w' ∧ e = .returned (.bool false) := by
  have hb := below_alloc1 (Below.refl w.heap.size w) (.cells #[.int .i64 lo, .int .i64 hi] 37)
  have HB := Lib.hid hb; clear hb
  by_cases h1 : fixOk lo
  · have Hlo := Lib.hid h1
    by_cases h2 : fixOk hi
    · have Hhi := Lib.hid h2
      have h3 : hi < lo := by unfold spanOk at h; unfold fixOk at h1 h2; omega
      have h4 : (lo ≤ hi) = False := eq_false (by omega)
      clear h h1 h2
      go_enter Tryz.func50, Tryz.ntmps50
      go_wp2_with fail
      refine (FRight_yes _ lo Hlo.out).mono ?_
      rintro e w1 ⟨rfl, hw⟩; rw [hw]; clear hw w1
      go_wp2_with fail
      refine (FRight_yes _ hi Hhi.out).mono ?_
      rintro e w1 ⟨rfl, hw⟩; rw [hw]; clear hw w1
      go_wp2
      go_ret
      exact ⟨HB.out, rfl⟩
    · have Hhi := Lib.hid h2; clear h h1 h2
      go_enter Tryz.func50, Tryz.ntmps50
      go_wp2_with fail
      refine (FRight_yes _ lo Hlo.out).mono ?_
      rintro e w1 ⟨rfl, hw⟩; rw [hw]; clear hw w1
      go_wp2_with fail
      refine (FRight_no _ hi Hhi.out).mono ?_
      rintro e w1 ⟨rfl, hw⟩; rw [hw]; clear hw w1
      go_wp2
      go_ret
      exact ⟨HB.out, rfl⟩
  · have Hlo := Lib.hid h1; clear h h1
    go_enter Tryz.func50, Tryz.ntmps50
    go_wp2_with fail
    refine (FRight_no _ lo Hlo.out).mono ?_
    rintro e w1 ⟨rfl, hw⟩; rw [hw]; clear hw w1
    go_wp2
    go_ret
    exact ⟨HB.out, rfl⟩
set_option linter.unusedSimpArgs false in
set_option maxRecDepth 100000 in
set_option maxHeartbeats 4000000 in
theorem RBoth_any (w : World) (lo hi d : Int) :
    Calls Tryz.prog 21 #[.agg #[.int .i64 lo, .int .i64 hi], .int .i64 d] w fun e w' => Below w.heap.size w w' ∧ AnsS (bothD lo hi d) e := by
  obtain ⟨w0, hw0⟩ : ∃ w0 : World, w0 = (w.alloc (.cells #[.int .i64 lo, .int .i64 hi] 37)) := ⟨_, rfl⟩
  have B0 := Lib.hid (show Below w.heap.size w w0 by rw [hw0]; (repeat' (first | exact Below.refl _ _ | refine Below.drew ?_ | refine Below.alloc ?_ (by first | exact Nat.le_refl _ | (simp; done) | (simp; omega)) _)))
  have z0 : w.heap.size + 1 ≤ w0.heap.size := by rw [hw0]; simp
  have La : CB w0 (w.heap.size) 37 #[.int .i64 lo, .int .i64 hi] := by rw [hw0]; have h := CB.new w 37 #[.int .i64 lo, .int .i64 hi]; simpa using h
  by_cases hs : spanOk lo hi
  · have HS := Lib.hid hs
    have hlo : fixOk lo := by unfold spanOk at hs; unfold fixOk; omega
    have hhi : fixOk hi := by unfold spanOk at hs; unfold fixOk; omega
    have HLO := Lib.hid hlo; have HHI := Lib.hid hhi; clear hlo hhi
    by_cases hd : 0 ≤ d ∧ d ≤ 12
    · obtain ⟨k, rfl⟩ : ∃ k : Nat, d = (k : Int) := ⟨d.toNat, by omega⟩
      have HT := Lib.hid (show bothD lo hi (k : Int) = (bothT lo hi k, 0) by unfold bothD; rw [if_pos hs, if_pos hd, Int.toNat_natCast]); rw [HT.out]
      have e1 : (0 : Int) ≤ (k : Int) := by omega
      have e2 : (k : Int) ≤ 12 := by omega
      have HK := Lib.hid (show k ≤ 12 by omega); clear hd hs HT
      go_enter Tryz.func21, Tryz.ntmps21
      go_upto_region 1 with (fail)
      rw [← hw0]; clear hw0
      have q2_0 := La.cell 0 rfl
      have q2_1 := La.cell 1 rfl
      have q2_lt := La.lt
      go_wp2_with fail
      refine (SRight_yes _ lo hi HS.out).mono ?_
      rintro e w1 ⟨hb1, rfl⟩
      have B3 := Lib.hid hb1
      have z3 := B3.out.size
      have HB4 := Lib.hid (B0.out.trans (B3.out.mono B0.out.size))
      clear hb1
      clear q2_0 q2_1 q2_lt
      have La_5 := CB.step La B3.out
      have q6_0 := La_5.cell 0 rfl
      have q6_1 := La_5.cell 1 rfl
      have q6_lt := La_5.lt
      go_upto_region 5 with (fail)
      clear q6_0 q6_1 q6_lt
      refine Flow.run [⟨0, 15, fun fv fw => fv = .pointer (some ⟨w.heap.size, 0, none⟩)⟩, ⟨1, 16, fun fv fw => fv = .int .i64 lo⟩, ⟨2, 17, fun fv fw => fv = .int .i64 (k : Int)⟩, ⟨3, 18, fun fv fw => ∃ fs : ByteArray, fv = .string fs ∧ fs.data.toList = decT (rndZ lo k false) k ∧ fs.size ≤ 100⟩, ⟨4, 19, fun fv fw => ∃ fs : ByteArray, fv = .string fs ∧ fs.data.toList = [91] ++ decT (rndZ lo k false) k ∧ fs.size ≤ 101⟩, ⟨5, 20, fun fv fw => ∃ fs : ByteArray, fv = .string fs ∧ fs.data.toList = [91] ++ decT (rndZ lo k false) k ++ [44, 32] ∧ fs.size ≤ 103⟩, ⟨6, 21, fun fv fw => fv = .pointer (some ⟨w.heap.size, 1, none⟩)⟩, ⟨7, 22, fun fv fw => fv = .int .i64 hi⟩, ⟨8, 23, fun fv fw => fv = .int .i64 (k : Int)⟩, ⟨9, 24, fun fv fw => ∃ fs : ByteArray, fv = .string fs ∧ fs.data.toList = decT (rndZ hi k true) k ∧ fs.size ≤ 100⟩, ⟨10, 25, fun fv fw => ∃ fs : ByteArray, fv = .string fs ∧ fs.data.toList = [91] ++ decT (rndZ lo k false) k ++ [44, 32] ++ decT (rndZ hi k true) k ∧ fs.size ≤ 203⟩, ⟨11, 26, fun fv fw => ∃ fs : ByteArray, fv = .string fs ∧ fs.data.toList = [91] ++ decT (rndZ lo k false) k ++ [44, 32] ++ decT (rndZ hi k true) k ++ [93] ∧ fs.size ≤ 204⟩] [] [] 2 (by kernel_rfl) (by kernel_rfl) (by kernel_rfl) (fun _ _ _ _ _ h => h) ?_ ?_ ?_ ?_
      · refine (all_cons (fun v w1 w2 h hb => h) (all_cons (fun v w1 w2 h hb => h) (all_cons (fun v w1 w2 h hb => h) (all_cons (fun v w1 w2 h hb => h) (all_cons (fun v w1 w2 h hb => h) (all_cons (fun v w1 w2 h hb => h) (all_cons (fun v w1 w2 h hb => h) (all_cons (fun v w1 w2 h hb => h) (all_cons (fun v w1 w2 h hb => h) (all_cons (fun v w1 w2 h hb => h) (all_cons (fun v w1 w2 h hb => h) (all_cons (fun v w1 w2 h hb => h) all_nil))))))))))))
      · refine (all_cons ?_ (all_cons ?_ (all_cons ?_ (all_cons ?_ (all_cons ?_ (all_cons ?_ (all_cons ?_ (all_cons ?_ (all_cons ?_ (all_cons ?_ (all_cons ?_ (all_cons ?_ all_nil))))))))))))
        · intro xs wk7 hBk hdep
          have HBk7 := Lib.hid hBk; have zk7 := hBk.size; clear hBk
          clear hdep
          refine wpOp_step (o := _) rfl (fun K hK => ?_)
          simp only [fpairs, List.cons_append, List.nil_append, List.map_cons, List.map_nil, putAll, Act.put, List.setIfInBounds_toArray, List.set_cons_zero, List.set_cons_succ]
          go_simp
          refine hK _ _ ⟨.pointer (some ⟨w.heap.size, 0, none⟩), by kernel_rfl, Below.refl _ _, rfl, fun h => absurd (show false = true from h) Bool.false_ne_true⟩
        · intro xs wk8 hBk hdep
          have HBk8 := Lib.hid hBk; have zk8 := hBk.size; clear hBk
          have f0 : (xs 0) = .pointer (some ⟨w.heap.size, 0, none⟩) := hdep _ (List.mem_of_getElem? (i := 0) rfl) (by kernel_rfl)
          clear hdep
          refine wpOp_step (o := _) rfl (fun K hK => ?_)
          simp only [fpairs, List.cons_append, List.nil_append, List.map_cons, List.map_nil, putAll, Act.put, List.setIfInBounds_toArray, List.set_cons_zero, List.set_cons_succ]
          have La_9 := CB.step La_5 HBk8.out
          have q10_0 := La_9.cell 0 rfl
          have q10_1 := La_9.cell 1 rfl
          have q10_lt := La_9.lt
          go_simp
          refine hK _ _ ⟨.int .i64 lo, by simp only [fpairs, List.cons_append, List.nil_append, List.map_cons, List.map_nil, putAll, Act.put, List.setIfInBounds_toArray, List.set_cons_zero, List.set_cons_succ, f0], Below.refl _ _, rfl, fun h => absurd (show false = true from h) Bool.false_ne_true⟩
        · intro xs wk11 hBk hdep
          have HBk11 := Lib.hid hBk; have zk11 := hBk.size; clear hBk
          clear hdep
          refine wpOp_step (o := _) rfl (fun K hK => ?_)
          simp only [fpairs, List.cons_append, List.nil_append, List.map_cons, List.map_nil, putAll, Act.put, List.setIfInBounds_toArray, List.set_cons_zero, List.set_cons_succ]
          go_simp
          refine hK _ _ ⟨.int .i64 (k : Int), by kernel_rfl, Below.refl _ _, rfl, fun h => absurd (show false = true from h) Bool.false_ne_true⟩
        · intro xs wk12 hBk hdep
          have HBk12 := Lib.hid hBk; have zk12 := hBk.size; clear hBk
          have f1 : (xs 1) = .int .i64 lo := hdep _ (List.mem_of_getElem? (i := 1) rfl) (by kernel_rfl)
          have f2 : (xs 2) = .int .i64 (k : Int) := hdep _ (List.mem_of_getElem? (i := 2) rfl) (by kernel_rfl)
          clear hdep
          refine wpOp_step (o := _) rfl (fun K hK => ?_)
          simp only [fpairs, List.cons_append, List.nil_append, List.map_cons, List.map_nil, putAll, Act.put, List.setIfInBounds_toArray, List.set_cons_zero, List.set_cons_succ]
          go_simp
          (with_reducible refine (Rrounded_any _ lo HLO.out k HK.out false).mono ?_)
          rintro e wc13 ⟨hb13, t, rfl, ht⟩
          refine hK _ _ ⟨.string t, by simp only [fpairs, List.cons_append, List.nil_append, List.map_cons, List.map_nil, putAll, Act.put, List.setIfInBounds_toArray, List.set_cons_zero, List.set_cons_succ, f1, f2], hb13, ⟨t, rfl, ht, by rw [Lib.size_eq, ht]; exact rnd_size HLO.out HK.out⟩, fun h => absurd (show false = true from h) Bool.false_ne_true⟩
        · intro xs wk14 hBk hdep
          have HBk14 := Lib.hid hBk; have zk14 := hBk.size; clear hBk
          have f3 : ∃ fs : ByteArray, (xs 3) = .string fs ∧ fs.data.toList = decT (rndZ lo k false) k ∧ fs.size ≤ 100 := hdep _ (List.mem_of_getElem? (i := 3) rfl) (by kernel_rfl)
          clear hdep
          refine wpOp_step (o := _) rfl (fun K hK => ?_)
          simp only [fpairs, List.cons_append, List.nil_append, List.map_cons, List.map_nil, putAll, Act.put, List.setIfInBounds_toArray, List.set_cons_zero, List.set_cons_succ]
          obtain ⟨s3, hu3, hl3, hz3⟩ := f3; rw [hu3]
          have hcat : ¬ 9223372036854775807 < s3.size + 1 := by omega
          have hcat2 : ¬ 9223372036854775807 < 1 + s3.size := by omega
          go_simp
          refine hK _ _ ⟨.string (⟨#[91]⟩ ++ s3), by simp only [fpairs, List.cons_append, List.nil_append, List.map_cons, List.map_nil, putAll, Act.put, List.setIfInBounds_toArray, List.set_cons_zero, List.set_cons_succ, hu3], Below.refl _ _, ⟨_, rfl, by simp only [ByteArray.data_append, Array.toList_append, hl3], by simp only [ByteArray.size_append]; try simp only [show (ByteArray.mk #[91]).size = 1 from rfl, show (ByteArray.mk #[44, 32]).size = 2 from rfl, show (ByteArray.mk #[93]).size = 1 from rfl]; omega⟩, fun h => absurd (show false = true from h) Bool.false_ne_true⟩
        · intro xs wk15 hBk hdep
          have HBk15 := Lib.hid hBk; have zk15 := hBk.size; clear hBk
          have f4 : ∃ fs : ByteArray, (xs 4) = .string fs ∧ fs.data.toList = [91] ++ decT (rndZ lo k false) k ∧ fs.size ≤ 101 := hdep _ (List.mem_of_getElem? (i := 4) rfl) (by kernel_rfl)
          clear hdep
          refine wpOp_step (o := _) rfl (fun K hK => ?_)
          simp only [fpairs, List.cons_append, List.nil_append, List.map_cons, List.map_nil, putAll, Act.put, List.setIfInBounds_toArray, List.set_cons_zero, List.set_cons_succ]
          obtain ⟨s4, hu4, hl4, hz4⟩ := f4; rw [hu4]
          have hcat : ¬ 9223372036854775807 < s4.size + 2 := by omega
          have hcat2 : ¬ 9223372036854775807 < 2 + s4.size := by omega
          go_simp
          refine hK _ _ ⟨.string (s4 ++ ⟨#[44, 32]⟩), by simp only [fpairs, List.cons_append, List.nil_append, List.map_cons, List.map_nil, putAll, Act.put, List.setIfInBounds_toArray, List.set_cons_zero, List.set_cons_succ, hu4], Below.refl _ _, ⟨_, rfl, by simp only [ByteArray.data_append, Array.toList_append, hl4], by simp only [ByteArray.size_append]; try simp only [show (ByteArray.mk #[91]).size = 1 from rfl, show (ByteArray.mk #[44, 32]).size = 2 from rfl, show (ByteArray.mk #[93]).size = 1 from rfl]; omega⟩, fun h => absurd (show false = true from h) Bool.false_ne_true⟩
        · intro xs wk16 hBk hdep
          have HBk16 := Lib.hid hBk; have zk16 := hBk.size; clear hBk
          clear hdep
          refine wpOp_step (o := _) rfl (fun K hK => ?_)
          simp only [fpairs, List.cons_append, List.nil_append, List.map_cons, List.map_nil, putAll, Act.put, List.setIfInBounds_toArray, List.set_cons_zero, List.set_cons_succ]
          go_simp
          refine hK _ _ ⟨.pointer (some ⟨w.heap.size, 1, none⟩), by kernel_rfl, Below.refl _ _, rfl, fun h => absurd (show false = true from h) Bool.false_ne_true⟩
        · intro xs wk17 hBk hdep
          have HBk17 := Lib.hid hBk; have zk17 := hBk.size; clear hBk
          have f6 : (xs 6) = .pointer (some ⟨w.heap.size, 1, none⟩) := hdep _ (List.mem_of_getElem? (i := 6) rfl) (by kernel_rfl)
          clear hdep
          refine wpOp_step (o := _) rfl (fun K hK => ?_)
          simp only [fpairs, List.cons_append, List.nil_append, List.map_cons, List.map_nil, putAll, Act.put, List.setIfInBounds_toArray, List.set_cons_zero, List.set_cons_succ]
          have La_18 := CB.step La_5 HBk17.out
          have q19_0 := La_18.cell 0 rfl
          have q19_1 := La_18.cell 1 rfl
          have q19_lt := La_18.lt
          go_simp
          refine hK _ _ ⟨.int .i64 hi, by simp only [fpairs, List.cons_append, List.nil_append, List.map_cons, List.map_nil, putAll, Act.put, List.setIfInBounds_toArray, List.set_cons_zero, List.set_cons_succ, f6], Below.refl _ _, rfl, fun h => absurd (show false = true from h) Bool.false_ne_true⟩
        · intro xs wk20 hBk hdep
          have HBk20 := Lib.hid hBk; have zk20 := hBk.size; clear hBk
          clear hdep
          refine wpOp_step (o := _) rfl (fun K hK => ?_)
          simp only [fpairs, List.cons_append, List.nil_append, List.map_cons, List.map_nil, putAll, Act.put, List.setIfInBounds_toArray, List.set_cons_zero, List.set_cons_succ]
          go_simp
          refine hK _ _ ⟨.int .i64 (k : Int), by kernel_rfl, Below.refl _ _, rfl, fun h => absurd (show false = true from h) Bool.false_ne_true⟩
        · intro xs wk21 hBk hdep
          have HBk21 := Lib.hid hBk; have zk21 := hBk.size; clear hBk
          have f7 : (xs 7) = .int .i64 hi := hdep _ (List.mem_of_getElem? (i := 7) rfl) (by kernel_rfl)
          have f8 : (xs 8) = .int .i64 (k : Int) := hdep _ (List.mem_of_getElem? (i := 8) rfl) (by kernel_rfl)
          clear hdep
          refine wpOp_step (o := _) rfl (fun K hK => ?_)
          simp only [fpairs, List.cons_append, List.nil_append, List.map_cons, List.map_nil, putAll, Act.put, List.setIfInBounds_toArray, List.set_cons_zero, List.set_cons_succ]
          go_simp
          (with_reducible refine (Rrounded_any _ hi HHI.out k HK.out true).mono ?_)
          rintro e wc22 ⟨hb22, t, rfl, ht⟩
          refine hK _ _ ⟨.string t, by simp only [fpairs, List.cons_append, List.nil_append, List.map_cons, List.map_nil, putAll, Act.put, List.setIfInBounds_toArray, List.set_cons_zero, List.set_cons_succ, f7, f8], hb22, ⟨t, rfl, ht, by rw [Lib.size_eq, ht]; exact rnd_size HHI.out HK.out⟩, fun h => absurd (show false = true from h) Bool.false_ne_true⟩
        · intro xs wk23 hBk hdep
          have HBk23 := Lib.hid hBk; have zk23 := hBk.size; clear hBk
          have f5 : ∃ fs : ByteArray, (xs 5) = .string fs ∧ fs.data.toList = [91] ++ decT (rndZ lo k false) k ++ [44, 32] ∧ fs.size ≤ 103 := hdep _ (List.mem_of_getElem? (i := 5) rfl) (by kernel_rfl)
          have f9 : ∃ fs : ByteArray, (xs 9) = .string fs ∧ fs.data.toList = decT (rndZ hi k true) k ∧ fs.size ≤ 100 := hdep _ (List.mem_of_getElem? (i := 9) rfl) (by kernel_rfl)
          clear hdep
          refine wpOp_step (o := _) rfl (fun K hK => ?_)
          simp only [fpairs, List.cons_append, List.nil_append, List.map_cons, List.map_nil, putAll, Act.put, List.setIfInBounds_toArray, List.set_cons_zero, List.set_cons_succ]
          obtain ⟨s5, hu5, hl5, hz5⟩ := f5; rw [hu5]
          obtain ⟨s9, hu9, hl9, hz9⟩ := f9; rw [hu9]
          have hcat : ¬ 9223372036854775807 < s5.size + s9.size := by omega
          go_simp
          refine hK _ _ ⟨.string (s5 ++ s9), by simp only [fpairs, List.cons_append, List.nil_append, List.map_cons, List.map_nil, putAll, Act.put, List.setIfInBounds_toArray, List.set_cons_zero, List.set_cons_succ, hu5, hu9], Below.refl _ _, ⟨_, rfl, by simp only [ByteArray.data_append, Array.toList_append, hl5, hl9], by simp only [ByteArray.size_append]; omega⟩, fun h => absurd (show false = true from h) Bool.false_ne_true⟩
        · intro xs wk24 hBk hdep
          have HBk24 := Lib.hid hBk; have zk24 := hBk.size; clear hBk
          have f10 : ∃ fs : ByteArray, (xs 10) = .string fs ∧ fs.data.toList = [91] ++ decT (rndZ lo k false) k ++ [44, 32] ++ decT (rndZ hi k true) k ∧ fs.size ≤ 203 := hdep _ (List.mem_of_getElem? (i := 10) rfl) (by kernel_rfl)
          clear hdep
          refine wpOp_step (o := _) rfl (fun K hK => ?_)
          simp only [fpairs, List.cons_append, List.nil_append, List.map_cons, List.map_nil, putAll, Act.put, List.setIfInBounds_toArray, List.set_cons_zero, List.set_cons_succ]
          obtain ⟨s10, hu10, hl10, hz10⟩ := f10; rw [hu10]
          have hcat : ¬ 9223372036854775807 < s10.size + 1 := by omega
          have hcat2 : ¬ 9223372036854775807 < 1 + s10.size := by omega
          go_simp
          refine hK _ _ ⟨.string (s10 ++ ⟨#[93]⟩), by simp only [fpairs, List.cons_append, List.nil_append, List.map_cons, List.map_nil, putAll, Act.put, List.setIfInBounds_toArray, List.set_cons_zero, List.set_cons_succ, hu10], Below.refl _ _, ⟨_, rfl, by simp only [ByteArray.data_append, Array.toList_append, hl10], by simp only [ByteArray.size_append]; try simp only [show (ByteArray.mk #[91]).size = 1 from rfl, show (ByteArray.mk #[44, 32]).size = 2 from rfl, show (ByteArray.mk #[93]).size = 1 from rfl]; omega⟩, fun h => absurd (show false = true from h) Bool.false_ne_true⟩
      · exact all_nil
      · intro xs wf25 hbf hf hn hd
        have f0 : (xs 0) = .pointer (some ⟨w.heap.size, 0, none⟩) := hf _ (List.mem_of_getElem? (i := 0) rfl)
        have f1 : (xs 1) = .int .i64 lo := hf _ (List.mem_of_getElem? (i := 1) rfl)
        have f2 : (xs 2) = .int .i64 (k : Int) := hf _ (List.mem_of_getElem? (i := 2) rfl)
        have f3 : ∃ fs : ByteArray, (xs 3) = .string fs ∧ fs.data.toList = decT (rndZ lo k false) k ∧ fs.size ≤ 100 := hf _ (List.mem_of_getElem? (i := 3) rfl)
        have f4 : ∃ fs : ByteArray, (xs 4) = .string fs ∧ fs.data.toList = [91] ++ decT (rndZ lo k false) k ∧ fs.size ≤ 101 := hf _ (List.mem_of_getElem? (i := 4) rfl)
        have f5 : ∃ fs : ByteArray, (xs 5) = .string fs ∧ fs.data.toList = [91] ++ decT (rndZ lo k false) k ++ [44, 32] ∧ fs.size ≤ 103 := hf _ (List.mem_of_getElem? (i := 5) rfl)
        have f6 : (xs 6) = .pointer (some ⟨w.heap.size, 1, none⟩) := hf _ (List.mem_of_getElem? (i := 6) rfl)
        have f7 : (xs 7) = .int .i64 hi := hf _ (List.mem_of_getElem? (i := 7) rfl)
        have f8 : (xs 8) = .int .i64 (k : Int) := hf _ (List.mem_of_getElem? (i := 8) rfl)
        have f9 : ∃ fs : ByteArray, (xs 9) = .string fs ∧ fs.data.toList = decT (rndZ hi k true) k ∧ fs.size ≤ 100 := hf _ (List.mem_of_getElem? (i := 9) rfl)
        have f10 : ∃ fs : ByteArray, (xs 10) = .string fs ∧ fs.data.toList = [91] ++ decT (rndZ lo k false) k ++ [44, 32] ++ decT (rndZ hi k true) k ∧ fs.size ≤ 203 := hf _ (List.mem_of_getElem? (i := 10) rfl)
        have f11 : ∃ fs : ByteArray, (xs 11) = .string fs ∧ fs.data.toList = [91] ++ decT (rndZ lo k false) k ++ [44, 32] ++ decT (rndZ hi k true) k ++ [93] ∧ fs.size ≤ 204 := hf _ (List.mem_of_getElem? (i := 11) rfl)
        clear hf hn hd
        simp only [fpairs, List.cons_append, List.nil_append, List.map_cons, List.map_nil, putAll, Act.put, List.setIfInBounds_toArray, List.set_cons_zero, List.set_cons_succ]
        have B26 := Lib.hid hbf
        have z26 := B26.out.size
        have HB27 := Lib.hid (HB4.out.trans (B26.out.mono HB4.out.size))
        clear hbf
        generalize xs 0 = x0 at *
        generalize xs 1 = x1 at *
        generalize xs 2 = x2 at *
        generalize xs 3 = x3 at *
        generalize xs 4 = x4 at *
        generalize xs 5 = x5 at *
        generalize xs 6 = x6 at *
        generalize xs 7 = x7 at *
        generalize xs 8 = x8 at *
        generalize xs 9 = x9 at *
        generalize xs 10 = x10 at *
        generalize xs 11 = x11 at *
        obtain rfl := f0
        obtain rfl := f1
        obtain rfl := f2
        clear f3
        clear f4
        clear f5
        obtain rfl := f6
        obtain rfl := f7
        obtain rfl := f8
        clear f9
        clear f10
        obtain ⟨t, rfl, ht, -⟩ := f11
        refine Early.next (i := 12) (by kernel_rfl) rfl (fun K hK => ?_)
        go_simp
        refine hK _ _ (fun _ => trivial) ?_
        clear hK K
        (try simp only [Act.put, List.setIfInBounds_toArray, List.set_cons_zero, List.set_cons_succ])
        refine Early.next (i := 13) (by kernel_rfl) rfl (fun K hK => ?_)
        go_simp
        refine hK _ _ (fun _ => trivial) ?_
        clear hK K
        (try simp only [Act.put, List.setIfInBounds_toArray, List.set_cons_zero, List.set_cons_succ])
        refine Early.done (by kernel_rfl) ?_ _
        (try simp only [Exit.then])
        go_wp2
        go_ret2
        exact ⟨HB27.out, t, rfl, ht⟩
    · have HT := Lib.hid (show bothD lo hi d = ([], 2) by unfold bothD; rw [if_pos hs, if_neg hd]); rw [HT.out]; clear HT hs
      by_cases h1 : d < 0
      · clear hd
        go_enter Tryz.func21, Tryz.ntmps21
        go_upto_region 1 with (fail)
        rw [← hw0]; clear hw0
        have q29_0 := La.cell 0 rfl
        have q29_1 := La.cell 1 rfl
        have q29_lt := La.lt
        go_wp2_with fail
        refine (SRight_yes _ lo hi HS.out).mono ?_
        rintro e w28 ⟨hb28, rfl⟩
        have B30 := Lib.hid hb28
        have z30 := B30.out.size
        have HB31 := Lib.hid (B0.out.trans (B30.out.mono B0.out.size))
        clear hb28
        clear q29_0 q29_1 q29_lt
        go_wp2
        go_ret2
        exact ⟨HB31.out, _, rfl, rfl⟩
      · have h2 : 12 < d := by omega
        clear hd
        go_enter Tryz.func21, Tryz.ntmps21
        go_upto_region 1 with (fail)
        rw [← hw0]; clear hw0
        have q33_0 := La.cell 0 rfl
        have q33_1 := La.cell 1 rfl
        have q33_lt := La.lt
        go_wp2_with fail
        refine (SRight_yes _ lo hi HS.out).mono ?_
        rintro e w32 ⟨hb32, rfl⟩
        have B34 := Lib.hid hb32
        have z34 := B34.out.size
        have HB35 := Lib.hid (B0.out.trans (B34.out.mono B0.out.size))
        clear hb32
        clear q33_0 q33_1 q33_lt
        go_wp2
        go_ret2
        exact ⟨HB35.out, _, rfl, rfl⟩
  · have HT := Lib.hid (show bothD lo hi d = ([], 20) by unfold bothD; rw [if_neg hs]); rw [HT.out]; clear HT
    have HS := Lib.hid hs; clear hs
    go_enter Tryz.func21, Tryz.ntmps21
    go_upto_region 1 with (fail)
    rw [← hw0]; clear hw0
    have q37_0 := La.cell 0 rfl
    have q37_1 := La.cell 1 rfl
    have q37_lt := La.lt
    go_wp2_with fail
    refine (SRight_no _ lo hi HS.out).mono ?_
    rintro e w36 ⟨hb36, rfl⟩
    have B38 := Lib.hid hb36
    have z38 := B38.out.size
    have HB39 := Lib.hid (B0.out.trans (B38.out.mono B0.out.size))
    clear hb36
    clear q37_0 q37_1 q37_lt
    go_wp2
    go_ret2
    exact ⟨HB39.out, _, rfl, rfl⟩
end Go.Proofs.YtfklkphoplpebaaGreatDoor
