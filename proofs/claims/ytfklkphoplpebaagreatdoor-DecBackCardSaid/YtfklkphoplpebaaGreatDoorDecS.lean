/- The step of dec.rounds, dec.fixed, dec.Fixed and dec.Both (written by gen_decs.py). -/
import Derived.Test.YtfklkphoplpebaaGreatDoorDecC
import Derived.Test.YtfklkphoplpebaaGreatDoorFlow
import Derived.Test.YtfklkphoplpebaaGreatDoorDec
import Derived.Test.YtfklkphoplpebaaGreatDoorPutL
namespace Go.Proofs.YtfklkphoplpebaaGreatDoor
open Go Go.RowKit Dig

set_option maxRecDepth 100000 in
set_option maxHeartbeats 4000000 in
theorem step1_any (w : World) (b : Nat) (neg : Bool) (by_ : Int) (vq vr : Value) (q r : Int) (h0 : One w b 4 (.bool neg)) (h1 : One w (b + 1) 3 (.int .i64 by_)) (hq : LV w w.heap.size vq q) (hr : LV w w.heap.size vr r)
    (fq : Fit q) (fs : Fit (q + by_)) (hb0 : -1 ≤ by_) (hb1 : by_ ≤ 1) :
    Calls Tryz.prog 92 #[vq, vr, .pointer (some ⟨b, 0, none⟩), .pointer (some ⟨b + 1, 0, none⟩)] w fun e w' => Below w.heap.size w w' ∧ RetL w' (if r ≠ 0 ∧ decide (r < 0) = neg then q + by_ else q, 0) e := by
  obtain ⟨nq, Aq, lq, cq, rfl, Hq⟩ := hq.opened; obtain ⟨nr, Ar, lr, cr, rfl, Hr⟩ := hr.opened; clear hq hr
  have HI := Lib.hid (LV.is Hr)
  have FQ := Lib.hid fq; have FSz := Lib.hid fs; clear fq fs
  obtain ⟨w0, hw0⟩ : ∃ w0 : World, w0 = (((w.alloc (.cells #[.bool nq, .slice Aq lq cq] 66)).alloc (.cells #[.bool nr, .slice Ar lr cr] 66)).alloc (.cells #[.bool false, .slice none 0 0] 66)) := ⟨_, rfl⟩
  have B0 := Lib.hid (show Below w.heap.size w w0 by rw [hw0]; (repeat' (first | exact Below.refl _ _ | refine Below.drew ?_ | refine Below.alloc ?_ (by first | exact Nat.le_refl _ | (simp; done) | (simp; omega)) _)))
  have z0 : w.heap.size + 3 ≤ w0.heap.size := by rw [hw0]; simp
  have Lq : LB w0 (w.heap.size) (.bool nq) (.slice Aq lq cq) := by rw [hw0]; (repeat (first | (refine LB.new' ?_; simp; done) | refine LB.alloc ?_ _))
  have Lr : LB w0 (w.heap.size + 1) (.bool nr) (.slice Ar lr cr) := by rw [hw0]; (repeat (first | (refine LB.new' ?_; simp; done) | refine LB.alloc ?_ _))
  have Lo : LB w0 (w.heap.size + 2) (.bool false) (.slice none 0 0) := by rw [hw0]; (repeat (first | (refine LB.new' ?_; simp; done) | refine LB.alloc ?_ _))
  have O0 := One.step h0 B0.out; have O1 := One.step h1 B0.out; have hlt1 := h1.lt; clear h0 h1
  replace Hq := Lib.hid (Hq.step B0.out); replace Hr := Lib.hid (Hr.step B0.out)
  obtain ⟨res, hres⟩ : ∃ x : Int × Int, x = (if r ≠ 0 ∧ decide (r < 0) = neg then q + by_ else q, 0) := ⟨_, rfl⟩
  rw [← hres]
  have q1_0 := Lq.cell0
  have q1_1 := Lq.cell1
  have q1_2 := Lq.frozen 0
  have q1_3 := Lq.frozen 1
  have q1_lt := Lq.lt
  have q2_0 := Lr.cell0
  have q2_1 := Lr.cell1
  have q2_2 := Lr.frozen 0
  have q2_3 := Lr.frozen 1
  have q2_lt := Lr.lt
  have q3_0 := Lo.cell0
  have q3_1 := Lo.cell1
  have q3_2 := Lo.frozen 0
  have q3_3 := Lo.frozen 1
  have q3_lt := Lo.lt
  have q4_0 := O0.cell; have q4_1 := O0.frozen; have q4_lt := O0.lt
  have q5_0 := O1.cell; have q5_1 := O1.frozen; have q5_lt := O1.lt
  by_cases hr0 : r = 0
  · obtain rfl : lr = 0 := by rw [HI.out.2.1, hr0, show (0 : Int).natAbs = 0 from rfl, dig_zero]; rfl
    have HRES := Lib.hid (show res = (q, 0) by rw [hres, if_neg (fun h => h.1 hr0)]); clear hres hr0 HI
    go_enter Tryz.func92, Tryz.ntmps92
    go_upto_region 1 with (fail)
    rw [← hw0]; clear hw0
    go_wp2
    (try simp only [Exit.inBlock, Exit.then])
    exact end_put rfl Lo B0.out (by omega) (LV.is Hq.out).2.2 (LV.is Hq.out).1 HRES.out rfl rfl
  · have hl0 : ((lr : Int) == 0) = false := by rw [beq_eq_false_iff_ne]; intro e; have h1 := dig_len_pos (n := r.natAbs) (by omega); have h2 := HI.out.2.1; omega
    have hnr := HI.out.1
    by_cases hn : nr = neg
    · have HRES := Lib.hid (show res = (q + by_, 0) by rw [hres, if_pos ⟨hr0, by rw [← hnr]; exact hn⟩]); clear hres HI hr0 hnr
      subst hn
      have hbb : (nr != nr) = false := by simp
      go_enter Tryz.func92, Tryz.ntmps92
      go_upto_region 1 with (fail)
      rw [← hw0]; clear hw0
      go_upto_region 3 with (fail)
      clear q1_0 q1_1 q1_2 q1_3 q1_lt q2_0 q2_1 q2_2 q2_3 q2_lt q3_0 q3_1 q3_2 q3_3 q3_lt q4_0 q4_1 q4_lt q5_0 q5_1 q5_lt
      clear hbb
      refine Flow.run [⟨0, 19, fun fv fw => fv = .agg #[.bool nq, .slice Aq lq cq]⟩, ⟨1, 20, fun fv fw => fv = .int .i64 by_⟩, ⟨2, 21, fun fv fw => LV fw fw.heap.size fv by_⟩, ⟨3, 22, fun fv fw => ∃ u, fv = .tuple #[u, .int .i64 0] ∧ LV fw fw.heap.size u (q + by_)⟩, ⟨4, 23, fun fv fw => LV fw fw.heap.size fv (q + by_)⟩] [⟨5, 24, fun fv fw => fv = .int .i64 0⟩] [] 2 (by kernel_rfl) (by kernel_rfl) (by kernel_rfl) (fun _ _ _ _ _ h => h) ?_ ?_ ?_ ?_
      · refine (all_cons (fun v w1 w2 h hb => h) (all_cons (fun v w1 w2 h hb => h) (all_cons (fun v w1 w2 h hb => h.step hb) (all_cons (fun v w1 w2 h hb => let ⟨u, e, h⟩ := h; ⟨u, e, h.step hb⟩) (all_cons (fun v w1 w2 h hb => h.step hb) (all_cons (fun v w1 w2 h hb => h) all_nil))))))
      · refine (all_cons ?_ (all_cons ?_ (all_cons ?_ (all_cons ?_ (all_cons ?_ all_nil)))))
        · intro xs wk6 hBk hdep
          have HBk6 := Lib.hid hBk; have zk6 := hBk.size; clear hBk
          clear hdep
          refine wpOp_step (o := _) rfl (fun K hK => ?_)
          simp only [fpairs, List.cons_append, List.nil_append, List.map_cons, List.map_nil, putAll, Act.put, List.setIfInBounds_toArray, List.set_cons_zero, List.set_cons_succ]
          have Lq_7 := LB.step Lq HBk6.out
          have q8_0 := Lq_7.cell0
          have q8_1 := Lq_7.cell1
          have q8_2 := Lq_7.frozen 0
          have q8_3 := Lq_7.frozen 1
          have q8_lt := Lq_7.lt
          go_simp
          refine hK _ _ ⟨.agg #[.bool nq, .slice Aq lq cq], by kernel_rfl, Below.refl _ _, rfl, fun h => absurd (show false = true from h) Bool.false_ne_true⟩
        · intro xs wk9 hBk hdep
          have HBk9 := Lib.hid hBk; have zk9 := hBk.size; clear hBk
          clear hdep
          refine wpOp_step (o := _) rfl (fun K hK => ?_)
          simp only [fpairs, List.cons_append, List.nil_append, List.map_cons, List.map_nil, putAll, Act.put, List.setIfInBounds_toArray, List.set_cons_zero, List.set_cons_succ]
          have Lby_10 := One.step O1 HBk9.out
          have q11_0 := Lby_10.cell; have q11_1 := Lby_10.frozen; have q11_lt := Lby_10.lt
          go_simp
          refine hK _ _ ⟨.int .i64 by_, by kernel_rfl, Below.refl _ _, rfl, fun h => absurd (show false = true from h) Bool.false_ne_true⟩
        · intro xs wk12 hBk hdep
          have HBk12 := Lib.hid hBk; have zk12 := hBk.size; clear hBk
          have f1 : (xs 1) = .int .i64 by_ := hdep _ (List.mem_of_getElem? (i := 1) rfl) (by kernel_rfl)
          clear hdep
          refine wpOp_step (o := _) rfl (fun K hK => ?_)
          simp only [fpairs, List.cons_append, List.nil_append, List.map_cons, List.map_nil, putAll, Act.put, List.setIfInBounds_toArray, List.set_cons_zero, List.set_cons_succ]
          go_simp
          (with_reducible refine (Of_any _ by_ (by omega) (by omega)).mono ?_)
          rintro e wc13 ⟨hb13, v13, rfl, hv13⟩
          refine hK _ _ ⟨v13, by simp only [fpairs, List.cons_append, List.nil_append, List.map_cons, List.map_nil, putAll, Act.put, List.setIfInBounds_toArray, List.set_cons_zero, List.set_cons_succ, f1], hb13, hv13, fun h => absurd (show false = true from h) Bool.false_ne_true⟩
        · intro xs wk14 hBk hdep
          have HBk14 := Lib.hid hBk; have zk14 := hBk.size; clear hBk
          have f0 : (xs 0) = .agg #[.bool nq, .slice Aq lq cq] := hdep _ (List.mem_of_getElem? (i := 0) rfl) (by kernel_rfl)
          have f2 : LV wk14 wk14.heap.size (xs 2) by_ := hdep _ (List.mem_of_getElem? (i := 2) rfl) (by kernel_rfl)
          clear hdep
          refine wpOp_step (o := _) rfl (fun K hK => ?_)
          simp only [fpairs, List.cons_append, List.nil_append, List.map_cons, List.map_nil, putAll, Act.put, List.setIfInBounds_toArray, List.set_cons_zero, List.set_cons_succ]
          go_simp
          have Hq_15 := Lib.hid (LV.step Hq.out HBk14.out)
          (with_reducible refine (Add_num (Hq_15.out) f2 FQ.out (fit_small (by omega)) FSz.out).mono ?_)
          rintro e wc16 ⟨hb16, v16, rfl, hv16⟩
          refine hK _ _ ⟨.tuple #[v16, .int .i64 0], by simp only [fpairs, List.cons_append, List.nil_append, List.map_cons, List.map_nil, putAll, Act.put, List.setIfInBounds_toArray, List.set_cons_zero, List.set_cons_succ, f0], hb16, ⟨v16, rfl, hv16⟩, fun h => absurd (show false = true from h) Bool.false_ne_true⟩
        · intro xs wk17 hBk hdep
          have HBk17 := Lib.hid hBk; have zk17 := hBk.size; clear hBk
          have f3 : ∃ u, (xs 3) = .tuple #[u, .int .i64 0] ∧ LV wk17 wk17.heap.size u (q + by_) := hdep _ (List.mem_of_getElem? (i := 3) rfl) (by kernel_rfl)
          clear hdep
          refine wpOp_step (o := _) rfl (fun K hK => ?_)
          simp only [fpairs, List.cons_append, List.nil_append, List.map_cons, List.map_nil, putAll, Act.put, List.setIfInBounds_toArray, List.set_cons_zero, List.set_cons_succ]
          obtain ⟨u, hu, hl⟩ := f3; rw [hu]
          go_simp
          refine hK _ _ ⟨u, by simp only [fpairs, List.cons_append, List.nil_append, List.map_cons, List.map_nil, putAll, Act.put, List.setIfInBounds_toArray, List.set_cons_zero, List.set_cons_succ, hu], Below.refl _ _, hl, fun h => absurd (show false = true from h) Bool.false_ne_true⟩
      · refine (all_cons ?_ all_nil)
        · intro xs wk18 hBk hdep
          have HBk18 := Lib.hid hBk; have zk18 := hBk.size; clear hBk
          have f3 : ∃ u, (xs 3) = .tuple #[u, .int .i64 0] ∧ LV wk18 wk18.heap.size u (q + by_) := hdep _ (List.mem_of_getElem? (i := 3) rfl) (by kernel_rfl)
          clear hdep
          obtain ⟨u, hu, -⟩ := f3
          refine ⟨_, .int .i64 0, rfl, Or.inl ⟨by rfl, fun w => ?_⟩, rfl⟩
          simp only [fpairs, List.cons_append, List.nil_append, List.map_cons, List.map_nil, putAll, Act.put, List.setIfInBounds_toArray, List.set_cons_zero, List.set_cons_succ]
          rw [hu]
          go_simp
      · intro xs wf19 hbf hf hn hd
        have f0 : (xs 0) = .agg #[.bool nq, .slice Aq lq cq] := hf _ (List.mem_of_getElem? (i := 0) rfl)
        have f1 : (xs 1) = .int .i64 by_ := hf _ (List.mem_of_getElem? (i := 1) rfl)
        have f2 : LV wf19 wf19.heap.size (xs 2) by_ := hf _ (List.mem_of_getElem? (i := 2) rfl)
        have f3 : ∃ u, (xs 3) = .tuple #[u, .int .i64 0] ∧ LV wf19 wf19.heap.size u (q + by_) := hf _ (List.mem_of_getElem? (i := 3) rfl)
        have f4 : LV wf19 wf19.heap.size (xs 4) (q + by_) := hf _ (List.mem_of_getElem? (i := 4) rfl)
        have f5 : (xs 5) = .int .i64 0 := hf _ (List.mem_of_getElem? (i := 5) rfl)
        clear hf hn hd
        simp only [fpairs, List.cons_append, List.nil_append, List.map_cons, List.map_nil, putAll, Act.put, List.setIfInBounds_toArray, List.set_cons_zero, List.set_cons_succ]
        have B20 := Lib.hid hbf
        have z20 := B20.out.size
        have HB21 := Lib.hid (B0.out.trans (B20.out.mono B0.out.size))
        clear hbf
        generalize xs 0 = x0 at *
        generalize xs 1 = x1 at *
        generalize xs 2 = x2 at *
        generalize xs 3 = x3 at *
        generalize xs 4 = x4 at *
        generalize xs 5 = x5 at *
        obtain rfl := f0
        obtain rfl := f1
        clear f2
        clear f3
        obtain ⟨n22, Ad22, l22, c22, rfl, hv22⟩ := f4.opened
        have Hs_22 := Lib.hid hv22
        clear f4 hv22
        obtain rfl := f5
        have Lo_23 := LB.step Lo B20.out
        have q24_0 := Lo_23.cell0
        have q24_1 := Lo_23.cell1
        have q24_2 := Lo_23.frozen 0
        have q24_3 := Lo_23.frozen 1
        have q24_lt := Lo_23.lt
        refine Early.next (i := 6) (by kernel_rfl) rfl (fun K hK => ?_)
        go_simp
        refine hK _ _ (fun _ => trivial) ?_
        clear hK K
        (try simp only [Act.put, List.setIfInBounds_toArray, List.set_cons_zero, List.set_cons_succ])
        clear q24_0 q24_1 q24_2 q24_3 q24_lt
        refine Early.next (i := 7) (by kernel_rfl) rfl (fun K hK => ?_)
        go_simp
        refine hK _ _ (fun _ => trivial) ?_
        clear hK K
        (try simp only [Act.put, List.setIfInBounds_toArray, List.set_cons_zero, List.set_cons_succ])
        refine Early.done (by kernel_rfl) ?_ _
        (try simp only [Exit.then])
        go_wp2
        (try simp only [Exit.inBlock, Exit.then])
        exact end_put rfl Lo_23 HB21.out (by omega) (LV.is Hs_22.out).2.2 (LV.is Hs_22.out).1 HRES.out rfl rfl
    · have HRES := Lib.hid (show res = (q, 0) by rw [hres, if_neg (fun h => hn (by rw [hnr]; exact h.2))]); clear hres HI hnr hr0
      have hbb : (!nr == neg) = true := by cases nr <;> cases neg <;> simp_all
      clear hn
      go_enter Tryz.func92, Tryz.ntmps92
      go_upto_region 1 with (fail)
      rw [← hw0]; clear hw0
      go_wp2
      (try simp only [Exit.inBlock, Exit.then])
      exact end_put rfl Lo B0.out (by omega) (LV.is Hq.out).2.2 (LV.is Hq.out).1 HRES.out rfl rfl
def rndZ (v : Int) (d : Nat) (up : Bool) : Int := if up then -((-(v * (10 ^ d : Nat))) / 4294967296) else (v * (10 ^ d : Nat)) / 4294967296
theorem tdiv_form (n : Int) : ∃ k : Nat, (n = k ∧ Int.tdiv n 4294967296 = ((k / 4294967296 : Nat) : Int) ∧ Int.tmod n 4294967296 = ((k % 4294967296 : Nat) : Int)) ∨ (n = -(k : Int) ∧ Int.tdiv n 4294967296 = -((k / 4294967296 : Nat) : Int) ∧ Int.tmod n 4294967296 = -((k % 4294967296 : Nat) : Int)) := by
  rcases Int.le_total 0 n with h | h
  · obtain ⟨k, rfl⟩ : ∃ k : Nat, n = k := ⟨n.toNat, by omega⟩
    exact ⟨k, .inl ⟨rfl, rfl, rfl⟩⟩
  · obtain ⟨k, rfl⟩ : ∃ k : Nat, n = -(k : Int) := ⟨(-n).toNat, by omega⟩
    exact ⟨k, .inr ⟨rfl, by rw [Int.neg_tdiv]; rfl, by rw [Int.neg_tmod]; rfl⟩⟩
theorem rnd_down (v : Int) (d : Nat) : (if Int.tmod (v * (10 ^ d : Nat)) 4294967296 ≠ 0 ∧ decide (Int.tmod (v * (10 ^ d : Nat)) 4294967296 < 0) = true then Int.tdiv (v * (10 ^ d : Nat)) 4294967296 + -1 else Int.tdiv (v * (10 ^ d : Nat)) 4294967296) = rndZ v d false := by
  unfold rndZ
  generalize v * ((10 ^ d : Nat) : Int) = n
  obtain ⟨k, ⟨h1, h2, h3⟩ | ⟨h1, h2, h3⟩⟩ := tdiv_form n <;> rw [h2, h3, h1] <;> simp only [decide_eq_true_eq, Bool.false_eq_true, if_false] <;> split <;> omega
theorem rnd_up (v : Int) (d : Nat) : (if Int.tmod (v * (10 ^ d : Nat)) 4294967296 ≠ 0 ∧ decide (Int.tmod (v * (10 ^ d : Nat)) 4294967296 < 0) = false then Int.tdiv (v * (10 ^ d : Nat)) 4294967296 + 1 else Int.tdiv (v * (10 ^ d : Nat)) 4294967296) = rndZ v d true := by
  unfold rndZ
  generalize v * ((10 ^ d : Nat) : Int) = n
  obtain ⟨k, ⟨h1, h2, h3⟩ | ⟨h1, h2, h3⟩⟩ := tdiv_form n <;> rw [h2, h3, h1] <;> simp only [decide_eq_false_iff_not, if_true] <;> split <;> omega
theorem lit_pow (d : Nat) (h : d ≤ 12) : parseZ (49 :: List.replicate d 48) = (((10 ^ d : Nat) : Int), 0) := by
  have key : ∀ d : Fin 13, litB (49 :: List.replicate d 48) ((10 ^ (d : Nat) : Nat) : Int) = true := by decide
  refine lit_parse (key ⟨d, by omega⟩) ?_
  have h1 := Nat.pow_le_pow_right (show 0 < 10 by omega) h
  show (((10 ^ d : Nat) : Int)).natAbs < _
  rw [Int.natAbs_natCast]
  omega
/-- What is known of rounding: its sign lies in block b, its step behind it. -/
def Way (w : World) (b : Nat) (up : Bool) : Prop := One w b 4 (.bool (!up)) ∧ One w (b + 1) 3 (.int .i64 (if up then 1 else -1))
theorem Way.step {w w' : World} {b : Nat} {up : Bool} (h : Way w b up) (hb : Below w.heap.size w w') : Way w' b up := ⟨h.1.step hb, h.2.step hb⟩
theorem fix_mul {v : Int} {d : Nat} (hv : fixOk v) (hd : d ≤ 12) : (v * ((10 ^ d : Nat) : Int)).natAbs ≤ 4503599627370496 * 1000000000000 := by
  rw [Int.natAbs_mul, Int.natAbs_natCast]
  have h1 := Nat.pow_le_pow_right (show 0 < 10 by omega) hd
  exact Nat.mul_le_mul (by unfold fixOk at hv; omega) h1
theorem rnd_small {v : Int} {d : Nat} {up : Bool} (hv : fixOk v) (hd : d ≤ 12) : (rndZ v d up).natAbs ≤ 4503599627370496 * 1000000000000 := by
  have hm := fix_mul hv hd
  unfold rndZ
  generalize v * ((10 ^ d : Nat) : Int) = n at *
  split <;> omega
theorem itoa_mid {s : Int} (h : s.natAbs < 1000000000000000000000000000000000000) : (Lib.itoa s).length ≤ 5401 := itoa_len (fit_mid h)
theorem step_any' (w : World) (b : Nat) (up : Bool) (vq vr : Value) (v : Int) (d : Nat) (hv : fixOk v) (hd : d ≤ 12) (h : Way w b up) (hq : LV w w.heap.size vq (Int.tdiv (v * (10 ^ d : Nat)) 4294967296)) (hr : LV w w.heap.size vr (Int.tmod (v * (10 ^ d : Nat)) 4294967296)) :
    Calls Tryz.prog 92 #[vq, vr, .pointer (some ⟨b, 0, none⟩), .pointer (some ⟨b + 1, 0, none⟩)] w fun e w' => Below w.heap.size w w' ∧ ∃ u, e = .returned (.tuple #[u, .int .i64 0]) ∧ LV w' w'.heap.size u (rndZ v d up) := by
  have hm := fix_mul hv hd
  have hq' : (Int.tdiv (v * (10 ^ d : Nat)) 4294967296).natAbs ≤ 4503599627370496 * 1000000000000 := by
    obtain ⟨k, ⟨h1, h2, h3⟩ | ⟨h1, h2, h3⟩⟩ := tdiv_form (v * ((10 ^ d : Nat) : Int)) <;> rw [h2] <;> omega
  refine (step1_any w b (!up) (if up then 1 else -1) vq vr _ _ h.1 h.2 hq hr (fit_mid (by omega)) (fit_mid (by split <;> omega)) (by split <;> omega) (by split <;> omega)).mono ?_
  rintro e w' ⟨hb, u, he, hu⟩
  refine ⟨hb, u, he, ?_⟩
  cases up with
  | true => rw [← rnd_up v d]; exact hu
  | false => rw [← rnd_down v d]; exact hu

set_option maxRecDepth 100000 in
set_option maxHeartbeats 4000000 in
theorem fixed_any (w : World) (v : Int) (hv : fixOk v) (d : Nat) (hd : d ≤ 12) (b : Nat) (up : Bool) (hw : Way w b up) (G : Glob w) :
    Calls Tryz.prog 46 #[.int .i64 v, .int .i64 (d : Int), .agg #[stepV b]] w fun e w' => Below w.heap.size w w' ∧ ∃ t : ByteArray, e = .returned (.string t) ∧ t.data.toList = decT (rndZ v d up) d := by
  have HV := Lib.hid hv; have HD := Lib.hid hd; have hv0 := hv.1; have hv1 := hv.2; have HM := Lib.hid (fix_mul hv hd); clear hv
  unfold stepV
  obtain ⟨w0, hw0⟩ : ∃ w0 : World, w0 = (w.alloc (.cells #[.func (.func 92) #[] #[.pointer (some ⟨b, 0, none⟩), .pointer (some ⟨b + 1, 0, none⟩)]] 81)) := ⟨_, rfl⟩
  have B0 := Lib.hid (show Below w.heap.size w w0 by rw [hw0]; (repeat' (first | exact Below.refl _ _ | refine Below.drew ?_ | refine Below.alloc ?_ (by first | exact Nat.le_refl _ | (simp; done) | (simp; omega)) _)))
  have z0 : w.heap.size + 1 ≤ w0.heap.size := by rw [hw0]; simp
  have Lway : CB w0 (w.heap.size) 81 #[.func (.func 92) #[] #[.pointer (some ⟨b, 0, none⟩), .pointer (some ⟨b + 1, 0, none⟩)]] := by rw [hw0]; have h := CB.new w 81 #[.func (.func 92) #[] #[.pointer (some ⟨b, 0, none⟩), .pointer (some ⟨b + 1, 0, none⟩)]]; simpa using h
  go_enter Tryz.func46, Tryz.ntmps46
  go_upto_region 1 with (fail)
  rw [← hw0]; clear hw0
  go_wp2_with fail
  refine (Repeat_int (d : Int) d rfl _ (by omega)).mono ?_
  rintro e w1 ⟨s1, rfl, hs1, hb1⟩
  have B2 := Lib.hid hb1
  have z2 := B2.out.size
  have HB3 := Lib.hid (B0.out.trans (B2.out.mono B0.out.size))
  clear hb1
  have hs1l : s1.size = d := by rw [Lib.size_eq, hs1, List.length_replicate]
  have hcat : ¬ 9223372036854775807 < 1 + s1.size := by omega
  obtain ⟨P, hP⟩ : ∃ P : Int, P = ((10 ^ d : Nat) : Int) := ⟨_, rfl⟩; have HP := Lib.hid hP
  have HP0 := Lib.hid (show P.natAbs < 1000000000000000000000000000 by rw [hP, Int.natAbs_natCast]; have := Nat.pow_le_pow_right (show 0 < 10 by omega) hd; omega)
  have hpz := Lib.hid (show parseZ (⟨#[49]⟩ ++ s1 : ByteArray).data.toList = (P, 0) by rw [ByteArray.data_append, Array.toList_append, hs1, hP]; exact lit_pow d hd); clear hP hs1
  have hsz := Lib.hid (show (⟨#[49]⟩ ++ s1 : ByteArray).size ≤ 1000000 by rw [ByteArray.size_append]; show 1 + s1.size ≤ _; omega)
  go_wp2_with fail
  refine (Parse_num hsz.out hpz.out).mono ?_
  rintro e w4 ⟨hb4, v2, rfl, hv2⟩
  have B5 := Lib.hid hb4
  have z5 := B5.out.size
  have HB6 := Lib.hid (HB3.out.trans (B5.out.mono HB3.out.size))
  clear hb4
  replace hv2 : LV w4 w4.heap.size v2 P := hv2
  obtain ⟨n7, Ad7, l7, c7, rfl, hv7⟩ := hv2.opened
  have Hten_7 := Lib.hid hv7
  clear hv2 hv7
  go_upto_region 2 with (fail)
  obtain ⟨w8, hW8⟩ : ∃ w8 : World, w8 = (w4.alloc (.cells #[.bool n7, .slice Ad7 l7 c7] 66)) := ⟨_, rfl⟩
  rw [← hW8]
  have hb8 : Below w4.heap.size w4 w8 := by rw [hW8]; (repeat' (first | exact Below.refl _ _ | refine Below.drew ?_ | refine Below.alloc ?_ (by first | exact Nat.le_refl _ | (simp; done) | (simp; omega)) _))
  have Lten_8 : LB w8 (w4.heap.size) (.bool n7) (.slice Ad7 l7 c7) := by rw [hW8]; (repeat (first | (refine LB.new' ?_; simp; done) | refine LB.alloc ?_ _))
  have za8 : w4.heap.size + 1 ≤ w8.heap.size := by rw [hW8]; simp
  have B9 := Lib.hid hb8
  have z9 := B9.out.size
  have HB10 := Lib.hid (HB6.out.trans (B9.out.mono HB6.out.size))
  clear hb8 hW8
  obtain ⟨n, hn⟩ : ∃ n : Int, n = v * P := ⟨_, rfl⟩; have HN := Lib.hid hn; have HN0 := Lib.hid (show n.natAbs ≤ 4503599627370496 * 1000000000000 by rw [hn, HP.out]; exact HM.out); clear hn
  refine Flow.run [⟨0, 24, fun fv fw => fv = .int .i64 v⟩, ⟨1, 25, fun fv fw => LV fw fw.heap.size fv v⟩, ⟨2, 26, fun fv fw => fv = .agg #[.bool n7, .slice Ad7 l7 c7]⟩, ⟨3, 27, fun fv fw => ∃ u, fv = .tuple #[u, .int .i64 0] ∧ LV fw fw.heap.size u n⟩, ⟨4, 23, fun fv fw => ∃ u, fv = .tuple #[u, .int .i64 0] ∧ LV fw fw.heap.size u n⟩, ⟨5, 28, fun fv fw => LV fw fw.heap.size fv n⟩, ⟨7, 9, fun fv fw => ∃ b, fv = .pointer (some ⟨b, 0, none⟩) ∧ LB fw b (.bool false) (.slice none 0 0)⟩] [⟨6, 29, fun fv fw => fv = .int .i64 0⟩] [7] 2 (by kernel_rfl) (by kernel_rfl) (by kernel_rfl) (fun _ _ _ _ _ h => h) ?_ ?_ ?_ ?_
  · refine (all_cons (fun v w1 w2 h hb => h) (all_cons (fun v w1 w2 h hb => h.step hb) (all_cons (fun v w1 w2 h hb => h) (all_cons (fun v w1 w2 h hb => let ⟨u, e, h⟩ := h; ⟨u, e, h.step hb⟩) (all_cons (fun v w1 w2 h hb => let ⟨u, e, h⟩ := h; ⟨u, e, h.step hb⟩) (all_cons (fun v w1 w2 h hb => h.step hb) (all_cons (fun v w1 w2 h hb => let ⟨b, e, h⟩ := h; ⟨b, e, h.step hb⟩) (all_cons (fun v w1 w2 h hb => h) all_nil))))))))
  · refine (all_cons ?_ (all_cons ?_ (all_cons ?_ (all_cons ?_ (all_cons ?_ (all_cons ?_ (all_cons ?_ all_nil)))))))
    · intro xs wk11 hBk hdep
      have HBk11 := Lib.hid hBk; have zk11 := hBk.size; clear hBk
      clear hdep
      refine wpOp_step (o := _) rfl (fun K hK => ?_)
      simp only [fpairs, List.cons_append, List.nil_append, List.map_cons, List.map_nil, putAll, Act.put, List.setIfInBounds_toArray, List.set_cons_zero, List.set_cons_succ]
      go_simp
      refine hK _ _ ⟨.int .i64 v, by kernel_rfl, Below.refl _ _, rfl, fun h => absurd (show false = true from h) Bool.false_ne_true⟩
    · intro xs wk12 hBk hdep
      have HBk12 := Lib.hid hBk; have zk12 := hBk.size; clear hBk
      have f0 : (xs 0) = .int .i64 v := hdep _ (List.mem_of_getElem? (i := 0) rfl) (by kernel_rfl)
      clear hdep
      refine wpOp_step (o := _) rfl (fun K hK => ?_)
      simp only [fpairs, List.cons_append, List.nil_append, List.map_cons, List.map_nil, putAll, Act.put, List.setIfInBounds_toArray, List.set_cons_zero, List.set_cons_succ]
      go_simp
      (with_reducible refine (Of_any _ v (by omega) (by omega)).mono ?_)
      rintro e wc13 ⟨hb13, v13, rfl, hv13⟩
      refine hK _ _ ⟨v13, by simp only [fpairs, List.cons_append, List.nil_append, List.map_cons, List.map_nil, putAll, Act.put, List.setIfInBounds_toArray, List.set_cons_zero, List.set_cons_succ, f0], hb13, hv13, fun h => absurd (show false = true from h) Bool.false_ne_true⟩
    · intro xs wk14 hBk hdep
      have HBk14 := Lib.hid hBk; have zk14 := hBk.size; clear hBk
      clear hdep
      refine wpOp_step (o := _) rfl (fun K hK => ?_)
      simp only [fpairs, List.cons_append, List.nil_append, List.map_cons, List.map_nil, putAll, Act.put, List.setIfInBounds_toArray, List.set_cons_zero, List.set_cons_succ]
      have Lten_15 := LB.step Lten_8 HBk14.out
      have q16_0 := Lten_15.cell0
      have q16_1 := Lten_15.cell1
      have q16_2 := Lten_15.frozen 0
      have q16_3 := Lten_15.frozen 1
      have q16_lt := Lten_15.lt
      go_simp
      refine hK _ _ ⟨.agg #[.bool n7, .slice Ad7 l7 c7], by kernel_rfl, Below.refl _ _, rfl, fun h => absurd (show false = true from h) Bool.false_ne_true⟩
    · intro xs wk17 hBk hdep
      have HBk17 := Lib.hid hBk; have zk17 := hBk.size; clear hBk
      have f1 : LV wk17 wk17.heap.size (xs 1) v := hdep _ (List.mem_of_getElem? (i := 1) rfl) (by kernel_rfl)
      have f2 : (xs 2) = .agg #[.bool n7, .slice Ad7 l7 c7] := hdep _ (List.mem_of_getElem? (i := 2) rfl) (by kernel_rfl)
      clear hdep
      refine wpOp_step (o := _) rfl (fun K hK => ?_)
      simp only [fpairs, List.cons_append, List.nil_append, List.map_cons, List.map_nil, putAll, Act.put, List.setIfInBounds_toArray, List.set_cons_zero, List.set_cons_succ]
      go_simp
      have P3_5_18 := Lib.hid (B9.out.trans (HBk17.out.mono B9.out.size))
      have Hten_19 := Lib.hid (LV.step Hten_7.out P3_5_18.out)
      (with_reducible refine (Mul_num f1 (Hten_19.out) (fit_small (by omega)) (fit_small HP0.out) (by rw [← HN.out]; exact fit_mid (by have := HN0.out; omega))).mono ?_)
      rintro e wc20 ⟨hb20, v20, rfl, hv20⟩
      rw [← HN.out] at hv20
      refine hK _ _ ⟨.tuple #[v20, .int .i64 0], by simp only [fpairs, List.cons_append, List.nil_append, List.map_cons, List.map_nil, putAll, Act.put, List.setIfInBounds_toArray, List.set_cons_zero, List.set_cons_succ, f2], hb20, ⟨v20, rfl, hv20⟩, fun h => absurd (show false = true from h) Bool.false_ne_true⟩
    · intro xs wk21 hBk hdep
      have HBk21 := Lib.hid hBk; have zk21 := hBk.size; clear hBk
      have f3 : ∃ u, (xs 3) = .tuple #[u, .int .i64 0] ∧ LV wk21 wk21.heap.size u n := hdep _ (List.mem_of_getElem? (i := 3) rfl) (by kernel_rfl)
      clear hdep
      refine wpOp_step (o := _) rfl (fun K hK => ?_)
      simp only [fpairs, List.cons_append, List.nil_append, List.map_cons, List.map_nil, putAll, Act.put, List.setIfInBounds_toArray, List.set_cons_zero, List.set_cons_succ]
      go_simp
      refine hK _ _ ⟨xs 3, by kernel_rfl, Below.refl _ _, f3, fun h => absurd (show false = true from h) Bool.false_ne_true⟩
    · intro xs wk22 hBk hdep
      have HBk22 := Lib.hid hBk; have zk22 := hBk.size; clear hBk
      have f4 : ∃ u, (xs 4) = .tuple #[u, .int .i64 0] ∧ LV wk22 wk22.heap.size u n := hdep _ (List.mem_of_getElem? (i := 4) rfl) (by kernel_rfl)
      clear hdep
      refine wpOp_step (o := _) rfl (fun K hK => ?_)
      simp only [fpairs, List.cons_append, List.nil_append, List.map_cons, List.map_nil, putAll, Act.put, List.setIfInBounds_toArray, List.set_cons_zero, List.set_cons_succ]
      obtain ⟨u, hu, hl⟩ := f4; rw [hu]
      go_simp
      refine hK _ _ ⟨u, by simp only [fpairs, List.cons_append, List.nil_append, List.map_cons, List.map_nil, putAll, Act.put, List.setIfInBounds_toArray, List.set_cons_zero, List.set_cons_succ, hu], Below.refl _ _, hl, fun h => absurd (show false = true from h) Bool.false_ne_true⟩
    · intro xs wk23 hBk hdep
      have HBk23 := Lib.hid hBk; have zk23 := hBk.size; clear hBk
      clear hdep
      refine wpOp_step (o := _) rfl (fun K hK => ?_)
      simp only [fpairs, List.cons_append, List.nil_append, List.map_cons, List.map_nil, putAll, Act.put, List.setIfInBounds_toArray, List.set_cons_zero, List.set_cons_succ]
      go_simp
      refine hK _ _ ⟨.pointer (some ⟨wk23.heap.size, 0, none⟩), by kernel_rfl, (Below.refl _ _).alloc (Nat.le_refl _) _, ⟨_, rfl, LB.new _ _ _⟩, fun _ => ⟨_, rfl, Nat.le_refl _, by simp⟩⟩
  · refine (all_cons ?_ all_nil)
    · intro xs wk24 hBk hdep
      have HBk24 := Lib.hid hBk; have zk24 := hBk.size; clear hBk
      have f4 : ∃ u, (xs 4) = .tuple #[u, .int .i64 0] ∧ LV wk24 wk24.heap.size u n := hdep _ (List.mem_of_getElem? (i := 4) rfl) (by kernel_rfl)
      clear hdep
      obtain ⟨u, hu, -⟩ := f4
      refine ⟨_, .int .i64 0, rfl, Or.inl ⟨by rfl, fun w => ?_⟩, rfl⟩
      simp only [fpairs, List.cons_append, List.nil_append, List.map_cons, List.map_nil, putAll, Act.put, List.setIfInBounds_toArray, List.set_cons_zero, List.set_cons_succ]
      rw [hu]
      go_simp
  · intro xs wf25 hbf hf hn hd
    have f0 : (xs 0) = .int .i64 v := hf _ (List.mem_of_getElem? (i := 0) rfl)
    have f1 : LV wf25 wf25.heap.size (xs 1) v := hf _ (List.mem_of_getElem? (i := 1) rfl)
    have f2 : (xs 2) = .agg #[.bool n7, .slice Ad7 l7 c7] := hf _ (List.mem_of_getElem? (i := 2) rfl)
    have f3 : ∃ u, (xs 3) = .tuple #[u, .int .i64 0] ∧ LV wf25 wf25.heap.size u n := hf _ (List.mem_of_getElem? (i := 3) rfl)
    have f4 : ∃ u, (xs 4) = .tuple #[u, .int .i64 0] ∧ LV wf25 wf25.heap.size u n := hf _ (List.mem_of_getElem? (i := 4) rfl)
    have f5 : LV wf25 wf25.heap.size (xs 5) n := hf _ (List.mem_of_getElem? (i := 5) rfl)
    have f7 : ∃ b, (xs 7) = .pointer (some ⟨b, 0, none⟩) ∧ LB wf25 b (.bool false) (.slice none 0 0) := hf _ (List.mem_of_getElem? (i := 6) rfl)
    have f6 : (xs 6) = .int .i64 0 := hf _ (List.mem_of_getElem? (i := 7) rfl)
    have n7 := hn 7 (by decide)
    clear hf hn hd
    simp only [fpairs, List.cons_append, List.nil_append, List.map_cons, List.map_nil, putAll, Act.put, List.setIfInBounds_toArray, List.set_cons_zero, List.set_cons_succ]
    have B26 := Lib.hid hbf
    have z26 := B26.out.size
    have HB27 := Lib.hid (HB10.out.trans (B26.out.mono HB10.out.size))
    clear hbf
    generalize xs 0 = x0 at *
    generalize xs 1 = x1 at *
    generalize xs 2 = x2 at *
    generalize xs 3 = x3 at *
    generalize xs 4 = x4 at *
    generalize xs 5 = x5 at *
    generalize xs 7 = x7 at *
    generalize xs 6 = x6 at *
    obtain rfl := f0
    clear f1
    obtain rfl := f2
    clear f3
    clear f4
    obtain ⟨n28, Ad28, l28, c28, rfl, hv28⟩ := f5.opened
    have Hn_28 := Lib.hid hv28
    clear f5 hv28
    obtain ⟨bn29_n, rfl, Ln30_n⟩ := f7
    have hge_bn29_n := Lib.hid (show w8.heap.size ≤ bn29_n by obtain ⟨b', e, h, -⟩ := n7; injection e with e; injection e with e; injection e with e _ _; omega)
    clear n7
    have hgb_bn29_n := Ln30_n.lt; have hgc_bn29_n := hge_bn29_n.out
    obtain rfl := f6
    have q31_0 := Ln30_n.cell0
    have q31_1 := Ln30_n.cell1
    have q31_2 := Ln30_n.frozen 0
    have q31_3 := Ln30_n.frozen 1
    have q31_lt := Ln30_n.lt
    refine Early.next (i := 8) (by kernel_rfl) rfl (fun K hK => ?_)
    go_simp
    refine hK _ _ (fun _ => trivial) ?_
    clear hK K
    (try simp only [Act.put, List.setIfInBounds_toArray, List.set_cons_zero, List.set_cons_succ])
    clear q31_0 q31_1 q31_2 q31_3 q31_lt
    have P1_3_33 := Lib.hid (B2.out.trans (B5.out.mono B2.out.size))
    have P1_4_34 := Lib.hid (P1_3_33.out.trans (B9.out.mono P1_3_33.out.size))
    have P1_5_35 := Lib.hid (P1_4_34.out.trans (B26.out.mono P1_4_34.out.size))
    have Lway_32 := CB.step Lway P1_5_35.out
    obtain ⟨w36, hW36⟩ : ∃ w36 : World, w36 = (wf25.setCell ⟨bn29_n, 0, none⟩ (.bool n28)).setCell ⟨bn29_n, 1, none⟩ (.slice Ad28 l28 c28) := ⟨_, rfl⟩
    rw [← hW36]
    have S36 := Lib.hid (show Soft wf25 w36 by rw [hW36]; exact soft_put Ln30_n)
    have Lway_36 : CB w36 (w.heap.size) 81 #[.func (.func 92) #[] #[.pointer (some ⟨b, 0, none⟩), .pointer (some ⟨b + 1, 0, none⟩)]] := by rw [hW36]; exact CB.far (p := ⟨bn29_n, 1, none⟩) (CB.far (p := ⟨bn29_n, 0, none⟩) Lway_32 (show w.heap.size ≠ bn29_n from (by omega)) _) (show w.heap.size ≠ bn29_n from (by omega)) _
    have Ln_36 : LB w36 (bn29_n) (.bool n28) (.slice Ad28 l28 c28) := by rw [hW36]; exact (Ln30_n.set0 _).set1 _
    have HBP36 := Lib.hid (show Below w.heap.size w w36 by rw [hW36]; exact below_set1 (below_set1 HB27.out (by omega) _ _) (by omega) _ _)
    have zw36 : w36.heap.size = wf25.heap.size := by rw [hW36]; simp [World.setCell]
    clear hW36
    refine Early.next (i := 9) (by kernel_rfl) rfl (fun K hK => ?_)
    go_simp
    refine hK _ _ (fun _ => trivial) ?_
    clear hK K
    (try simp only [Act.put, List.setIfInBounds_toArray, List.set_cons_zero, List.set_cons_succ])
    refine Early.done (by kernel_rfl) ?_ _
    (try simp only [Exit.then])
    go_upto_region 3 with (fail)
    obtain ⟨q, hq⟩ : ∃ q : Int, q = Int.tdiv n 4294967296 := ⟨_, rfl⟩; have HQ := Lib.hid hq; clear hq; obtain ⟨r, hr⟩ : ∃ r : Int, r = Int.tmod n 4294967296 := ⟨_, rfl⟩; have HR := Lib.hid hr; clear hr
    refine Flow.run [⟨0, 31, fun fv fw => fv = .agg #[.bool n28, .slice Ad28 l28 c28]⟩, ⟨1, 32, fun fv fw => LV fw fw.heap.size fv 4294967296⟩, ⟨2, 33, fun fv fw => ∃ u1 u2, fv = .tuple #[u1, u2, .int .i64 0] ∧ LV fw fw.heap.size u1 q ∧ LV fw fw.heap.size u2 r⟩, ⟨3, 30, fun fv fw => ∃ u1 u2, fv = .tuple #[u1, u2, .int .i64 0] ∧ LV fw fw.heap.size u1 q ∧ LV fw fw.heap.size u2 r⟩, ⟨4, 34, fun fv fw => LV fw fw.heap.size fv q⟩, ⟨7, 11, fun fv fw => ∃ b, fv = .pointer (some ⟨b, 0, none⟩) ∧ LB fw b (.bool false) (.slice none 0 0)⟩, ⟨8, 12, fun fv fw => ∃ b, fv = .pointer (some ⟨b, 0, none⟩) ∧ LB fw b (.bool false) (.slice none 0 0)⟩] [⟨5, 35, fun fv fw => LV fw fw.heap.size fv r⟩, ⟨6, 36, fun fv fw => fv = .int .i64 0⟩] [7, 8] 3 (by kernel_rfl) (by kernel_rfl) (by kernel_rfl) (fun _ _ _ _ _ h => h) ?_ ?_ ?_ ?_
    · refine (all_cons (fun v w1 w2 h hb => h) (all_cons (fun v w1 w2 h hb => h.step hb) (all_cons (fun v w1 w2 h hb => let ⟨u1, u2, e, h1, h2⟩ := h; ⟨u1, u2, e, h1.step hb, h2.step hb⟩) (all_cons (fun v w1 w2 h hb => let ⟨u1, u2, e, h1, h2⟩ := h; ⟨u1, u2, e, h1.step hb, h2.step hb⟩) (all_cons (fun v w1 w2 h hb => h.step hb) (all_cons (fun v w1 w2 h hb => let ⟨b, e, h⟩ := h; ⟨b, e, h.step hb⟩) (all_cons (fun v w1 w2 h hb => let ⟨b, e, h⟩ := h; ⟨b, e, h.step hb⟩) (all_cons (fun v w1 w2 h hb => h.step hb) (all_cons (fun v w1 w2 h hb => h) all_nil)))))))))
    · refine (all_cons ?_ (all_cons ?_ (all_cons ?_ (all_cons ?_ (all_cons ?_ (all_cons ?_ (all_cons ?_ all_nil)))))))
      · intro xs wk37 hBk hdep
        have HBk37 := Lib.hid hBk; have zk37 := hBk.size; clear hBk
        clear hdep
        refine wpOp_step (o := _) rfl (fun K hK => ?_)
        simp only [fpairs, List.cons_append, List.nil_append, List.map_cons, List.map_nil, putAll, Act.put, List.setIfInBounds_toArray, List.set_cons_zero, List.set_cons_succ]
        have Ln_38 := LB.step Ln_36 HBk37.out
        have q39_0 := Ln_38.cell0
        have q39_1 := Ln_38.cell1
        have q39_2 := Ln_38.frozen 0
        have q39_3 := Ln_38.frozen 1
        have q39_lt := Ln_38.lt
        go_simp
        refine hK _ _ ⟨.agg #[.bool n28, .slice Ad28 l28 c28], by kernel_rfl, Below.refl _ _, rfl, fun h => absurd (show false = true from h) Bool.false_ne_true⟩
      · intro xs wk40 hBk hdep
        have HBk40 := Lib.hid hBk; have zk40 := hBk.size; clear hBk
        clear hdep
        refine wpOp_step (o := _) rfl (fun K hK => ?_)
        simp only [fpairs, List.cons_append, List.nil_append, List.map_cons, List.map_nil, putAll, Act.put, List.setIfInBounds_toArray, List.set_cons_zero, List.set_cons_succ]
        go_simp
        (with_reducible refine (Of_any _ 4294967296 (by decide) (by decide)).mono ?_)
        rintro e wc41 ⟨hb41, v41, rfl, hv41⟩
        refine hK _ _ ⟨v41, by kernel_rfl, hb41, hv41, fun h => absurd (show false = true from h) Bool.false_ne_true⟩
      · intro xs wk42 hBk hdep
        have HBk42 := Lib.hid hBk; have zk42 := hBk.size; clear hBk
        have f0 : (xs 0) = .agg #[.bool n28, .slice Ad28 l28 c28] := hdep _ (List.mem_of_getElem? (i := 0) rfl) (by kernel_rfl)
        have f1 : LV wk42 wk42.heap.size (xs 1) 4294967296 := hdep _ (List.mem_of_getElem? (i := 1) rfl) (by kernel_rfl)
        clear hdep
        refine wpOp_step (o := _) rfl (fun K hK => ?_)
        simp only [fpairs, List.cons_append, List.nil_append, List.map_cons, List.map_nil, putAll, Act.put, List.setIfInBounds_toArray, List.set_cons_zero, List.set_cons_succ]
        go_simp
        have Hn_43 := Lib.hid (LV.soft Hn_28.out ((S36.out).trans (Soft.of HBk42.out)))
        (with_reducible refine (Div_num (Hn_43.out) f1 (fit_mid (by have := HN0.out; omega)) (fit_small (by decide)) (by decide)).mono ?_)
        rintro e wc44 ⟨hb44, v44, u44, rfl, hv44, hu44⟩
        rw [← HQ.out] at hv44; rw [← HR.out] at hu44
        refine hK _ _ ⟨.tuple #[v44, u44, .int .i64 0], by simp only [fpairs, List.cons_append, List.nil_append, List.map_cons, List.map_nil, putAll, Act.put, List.setIfInBounds_toArray, List.set_cons_zero, List.set_cons_succ, f0], hb44, ⟨v44, u44, rfl, hv44, hu44⟩, fun h => absurd (show false = true from h) Bool.false_ne_true⟩
      · intro xs wk45 hBk hdep
        have HBk45 := Lib.hid hBk; have zk45 := hBk.size; clear hBk
        have f2 : ∃ u1 u2, (xs 2) = .tuple #[u1, u2, .int .i64 0] ∧ LV wk45 wk45.heap.size u1 q ∧ LV wk45 wk45.heap.size u2 r := hdep _ (List.mem_of_getElem? (i := 2) rfl) (by kernel_rfl)
        clear hdep
        refine wpOp_step (o := _) rfl (fun K hK => ?_)
        simp only [fpairs, List.cons_append, List.nil_append, List.map_cons, List.map_nil, putAll, Act.put, List.setIfInBounds_toArray, List.set_cons_zero, List.set_cons_succ]
        go_simp
        refine hK _ _ ⟨xs 2, by kernel_rfl, Below.refl _ _, f2, fun h => absurd (show false = true from h) Bool.false_ne_true⟩
      · intro xs wk46 hBk hdep
        have HBk46 := Lib.hid hBk; have zk46 := hBk.size; clear hBk
        have f3 : ∃ u1 u2, (xs 3) = .tuple #[u1, u2, .int .i64 0] ∧ LV wk46 wk46.heap.size u1 q ∧ LV wk46 wk46.heap.size u2 r := hdep _ (List.mem_of_getElem? (i := 3) rfl) (by kernel_rfl)
        clear hdep
        refine wpOp_step (o := _) rfl (fun K hK => ?_)
        simp only [fpairs, List.cons_append, List.nil_append, List.map_cons, List.map_nil, putAll, Act.put, List.setIfInBounds_toArray, List.set_cons_zero, List.set_cons_succ]
        obtain ⟨u1, u2, hu, h1, h2⟩ := f3; rw [hu]
        go_simp
        refine hK _ _ ⟨u1, by simp only [fpairs, List.cons_append, List.nil_append, List.map_cons, List.map_nil, putAll, Act.put, List.setIfInBounds_toArray, List.set_cons_zero, List.set_cons_succ, hu], Below.refl _ _, h1, fun h => absurd (show false = true from h) Bool.false_ne_true⟩
      · intro xs wk47 hBk hdep
        have HBk47 := Lib.hid hBk; have zk47 := hBk.size; clear hBk
        clear hdep
        refine wpOp_step (o := _) rfl (fun K hK => ?_)
        simp only [fpairs, List.cons_append, List.nil_append, List.map_cons, List.map_nil, putAll, Act.put, List.setIfInBounds_toArray, List.set_cons_zero, List.set_cons_succ]
        go_simp
        refine hK _ _ ⟨.pointer (some ⟨wk47.heap.size, 0, none⟩), by kernel_rfl, (Below.refl _ _).alloc (Nat.le_refl _) _, ⟨_, rfl, LB.new _ _ _⟩, fun _ => ⟨_, rfl, Nat.le_refl _, by simp⟩⟩
      · intro xs wk48 hBk hdep
        have HBk48 := Lib.hid hBk; have zk48 := hBk.size; clear hBk
        clear hdep
        refine wpOp_step (o := _) rfl (fun K hK => ?_)
        simp only [fpairs, List.cons_append, List.nil_append, List.map_cons, List.map_nil, putAll, Act.put, List.setIfInBounds_toArray, List.set_cons_zero, List.set_cons_succ]
        go_simp
        refine hK _ _ ⟨.pointer (some ⟨wk48.heap.size, 0, none⟩), by kernel_rfl, (Below.refl _ _).alloc (Nat.le_refl _) _, ⟨_, rfl, LB.new _ _ _⟩, fun _ => ⟨_, rfl, Nat.le_refl _, by simp⟩⟩
    · refine (all_cons ?_ (all_cons ?_ all_nil))
      · intro xs wk49 hBk hdep
        have HBk49 := Lib.hid hBk; have zk49 := hBk.size; clear hBk
        have f3 : ∃ u1 u2, (xs 3) = .tuple #[u1, u2, .int .i64 0] ∧ LV wk49 wk49.heap.size u1 q ∧ LV wk49 wk49.heap.size u2 r := hdep _ (List.mem_of_getElem? (i := 3) rfl) (by kernel_rfl)
        clear hdep
        obtain ⟨u1, u2, hu, h1, h2⟩ := f3
        refine ⟨_, u2, rfl, Or.inl ⟨by rfl, fun w => ?_⟩, h2⟩
        simp only [fpairs, List.cons_append, List.nil_append, List.map_cons, List.map_nil, putAll, Act.put, List.setIfInBounds_toArray, List.set_cons_zero, List.set_cons_succ]
        rw [hu]
        go_simp
      · intro xs wk50 hBk hdep
        have HBk50 := Lib.hid hBk; have zk50 := hBk.size; clear hBk
        have f3 : ∃ u1 u2, (xs 3) = .tuple #[u1, u2, .int .i64 0] ∧ LV wk50 wk50.heap.size u1 q ∧ LV wk50 wk50.heap.size u2 r := hdep _ (List.mem_of_getElem? (i := 3) rfl) (by kernel_rfl)
        clear hdep
        obtain ⟨u1, u2, hu, -⟩ := f3
        refine ⟨_, .int .i64 0, rfl, Or.inl ⟨by rfl, fun w => ?_⟩, rfl⟩
        simp only [fpairs, List.cons_append, List.nil_append, List.map_cons, List.map_nil, putAll, Act.put, List.setIfInBounds_toArray, List.set_cons_zero, List.set_cons_succ]
        rw [hu]
        go_simp
    · intro xs wf51 hbf hf hn hd
      have f0 : (xs 0) = .agg #[.bool n28, .slice Ad28 l28 c28] := hf _ (List.mem_of_getElem? (i := 0) rfl)
      have f1 : LV wf51 wf51.heap.size (xs 1) 4294967296 := hf _ (List.mem_of_getElem? (i := 1) rfl)
      have f2 : ∃ u1 u2, (xs 2) = .tuple #[u1, u2, .int .i64 0] ∧ LV wf51 wf51.heap.size u1 q ∧ LV wf51 wf51.heap.size u2 r := hf _ (List.mem_of_getElem? (i := 2) rfl)
      have f3 : ∃ u1 u2, (xs 3) = .tuple #[u1, u2, .int .i64 0] ∧ LV wf51 wf51.heap.size u1 q ∧ LV wf51 wf51.heap.size u2 r := hf _ (List.mem_of_getElem? (i := 3) rfl)
      have f4 : LV wf51 wf51.heap.size (xs 4) q := hf _ (List.mem_of_getElem? (i := 4) rfl)
      have f7 : ∃ b, (xs 7) = .pointer (some ⟨b, 0, none⟩) ∧ LB wf51 b (.bool false) (.slice none 0 0) := hf _ (List.mem_of_getElem? (i := 5) rfl)
      have f8 : ∃ b, (xs 8) = .pointer (some ⟨b, 0, none⟩) ∧ LB wf51 b (.bool false) (.slice none 0 0) := hf _ (List.mem_of_getElem? (i := 6) rfl)
      have f5 : LV wf51 wf51.heap.size (xs 5) r := hf _ (List.mem_of_getElem? (i := 7) rfl)
      have f6 : (xs 6) = .int .i64 0 := hf _ (List.mem_of_getElem? (i := 8) rfl)
      have n7 := hn 7 (by decide)
      have n8 := hn 8 (by decide)
      have ne7_8 := hd 7 (by decide) 8 (by decide) (by decide)
      have ne8_7 := hd 8 (by decide) 7 (by decide) (by decide)
      clear hf hn hd
      simp only [fpairs, List.cons_append, List.nil_append, List.map_cons, List.map_nil, putAll, Act.put, List.setIfInBounds_toArray, List.set_cons_zero, List.set_cons_succ]
      have B52 := Lib.hid hbf
      have z52 := B52.out.size
      have HB53 := Lib.hid (HBP36.out.trans (B52.out.mono HBP36.out.size))
      clear hbf
      generalize xs 0 = x0 at *
      generalize xs 1 = x1 at *
      generalize xs 2 = x2 at *
      generalize xs 3 = x3 at *
      generalize xs 4 = x4 at *
      generalize xs 7 = x7 at *
      generalize xs 8 = x8 at *
      generalize xs 5 = x5 at *
      generalize xs 6 = x6 at *
      obtain rfl := f0
      clear f1
      clear f2
      clear f3
      obtain ⟨n54, Ad54, l54, c54, rfl, hv54⟩ := f4.opened
      have Hq_54 := Lib.hid hv54
      clear f4 hv54
      obtain ⟨bn55_q, rfl, Ln56_q⟩ := f7
      have hge_bn55_q := Lib.hid (show w36.heap.size ≤ bn55_q by obtain ⟨b', e, h, -⟩ := n7; injection e with e; injection e with e; injection e with e _ _; omega)
      clear n7
      have hgb_bn55_q := Ln56_q.lt; have hgc_bn55_q := hge_bn55_q.out
      obtain ⟨bn57_r, rfl, Ln58_r⟩ := f8
      have hge_bn57_r := Lib.hid (show w36.heap.size ≤ bn57_r by obtain ⟨b', e, h, -⟩ := n8; injection e with e; injection e with e; injection e with e _ _; omega)
      clear n8
      have hgb_bn57_r := Ln58_r.lt; have hgc_bn57_r := hge_bn57_r.out
      obtain ⟨n59, Ad59, l59, c59, rfl, hv59⟩ := f5.opened
      have Hr_59 := Lib.hid hv59
      clear f5 hv59
      obtain rfl := f6
      have hne7_8 := Lib.hid (show bn55_q ≠ bn57_r from fun e => ne7_8 (by rw [e]))
      have hne8_7 := Lib.hid (show bn57_r ≠ bn55_q from fun e => ne8_7 (by rw [e]))
      clear ne7_8
      clear ne8_7
      have q60_0 := Ln56_q.cell0
      have q60_1 := Ln56_q.cell1
      have q60_2 := Ln56_q.frozen 0
      have q60_3 := Ln56_q.frozen 1
      have q60_lt := Ln56_q.lt
      refine Early.next (i := 9) (by kernel_rfl) rfl (fun K hK => ?_)
      go_simp
      refine hK _ _ (fun _ => trivial) ?_
      clear hK K
      (try simp only [Act.put, List.setIfInBounds_toArray, List.set_cons_zero, List.set_cons_succ])
      clear q60_0 q60_1 q60_2 q60_3 q60_lt
      have Lway_61 := CB.step Lway_36 B52.out
      obtain ⟨w62, hW62⟩ : ∃ w62 : World, w62 = (wf51.setCell ⟨bn55_q, 0, none⟩ (.bool n54)).setCell ⟨bn55_q, 1, none⟩ (.slice Ad54 l54 c54) := ⟨_, rfl⟩
      rw [← hW62]
      have S62 := Lib.hid (show Soft wf51 w62 by rw [hW62]; exact soft_put Ln56_q)
      have Lr_62 : LB w62 (bn57_r) (.bool false) (.slice none 0 0) := by rw [hW62]; exact lb_far (lb_far Ln58_r hne8_7.out) hne8_7.out
      have Lway_62 : CB w62 (w.heap.size) 81 #[.func (.func 92) #[] #[.pointer (some ⟨b, 0, none⟩), .pointer (some ⟨b + 1, 0, none⟩)]] := by rw [hW62]; exact CB.far (p := ⟨bn55_q, 1, none⟩) (CB.far (p := ⟨bn55_q, 0, none⟩) Lway_61 (show w.heap.size ≠ bn55_q from (by omega)) _) (show w.heap.size ≠ bn55_q from (by omega)) _
      have Lq_62 : LB w62 (bn55_q) (.bool n54) (.slice Ad54 l54 c54) := by rw [hW62]; exact (Ln56_q.set0 _).set1 _
      have HBP62 := Lib.hid (show Below w.heap.size w w62 by rw [hW62]; exact below_set1 (below_set1 HB53.out (by omega) _ _) (by omega) _ _)
      have zw62 : w62.heap.size = wf51.heap.size := by rw [hW62]; simp [World.setCell]
      clear hW62
      have q63_0 := Lr_62.cell0
      have q63_1 := Lr_62.cell1
      have q63_2 := Lr_62.frozen 0
      have q63_3 := Lr_62.frozen 1
      have q63_lt := Lr_62.lt
      refine Early.next (i := 10) (by kernel_rfl) rfl (fun K hK => ?_)
      go_simp
      refine hK _ _ (fun _ => trivial) ?_
      clear hK K
      (try simp only [Act.put, List.setIfInBounds_toArray, List.set_cons_zero, List.set_cons_succ])
      clear q63_0 q63_1 q63_2 q63_3 q63_lt
      obtain ⟨w64, hW64⟩ : ∃ w64 : World, w64 = (w62.setCell ⟨bn57_r, 0, none⟩ (.bool n59)).setCell ⟨bn57_r, 1, none⟩ (.slice Ad59 l59 c59) := ⟨_, rfl⟩
      rw [← hW64]
      have S64 := Lib.hid (show Soft w62 w64 by rw [hW64]; exact soft_put Lr_62)
      have Lq_64 : LB w64 (bn55_q) (.bool n54) (.slice Ad54 l54 c54) := by rw [hW64]; exact lb_far (lb_far Lq_62 hne7_8.out) hne7_8.out
      have Lway_64 : CB w64 (w.heap.size) 81 #[.func (.func 92) #[] #[.pointer (some ⟨b, 0, none⟩), .pointer (some ⟨b + 1, 0, none⟩)]] := by rw [hW64]; exact CB.far (p := ⟨bn57_r, 1, none⟩) (CB.far (p := ⟨bn57_r, 0, none⟩) Lway_62 (show w.heap.size ≠ bn57_r from (by omega)) _) (show w.heap.size ≠ bn57_r from (by omega)) _
      have Lr_64 : LB w64 (bn57_r) (.bool n59) (.slice Ad59 l59 c59) := by rw [hW64]; exact (Lr_62.set0 _).set1 _
      have HBP64 := Lib.hid (show Below w.heap.size w w64 by rw [hW64]; exact below_set1 (below_set1 HBP62.out (by omega) _ _) (by omega) _ _)
      have zw64 : w64.heap.size = w62.heap.size := by rw [hW64]; simp [World.setCell]
      clear hW64
      refine Early.next (i := 11) (by kernel_rfl) rfl (fun K hK => ?_)
      go_simp
      refine hK _ _ (fun _ => trivial) ?_
      clear hK K
      (try simp only [Act.put, List.setIfInBounds_toArray, List.set_cons_zero, List.set_cons_succ])
      refine Early.done (by kernel_rfl) ?_ _
      (try simp only [Exit.then])
      have q66_0 := Lway_64.cell 0 rfl
      have q66_lt := Lway_64.lt
      have q67_0 := Lq_64.cell0
      have q67_1 := Lq_64.cell1
      have q67_2 := Lq_64.frozen 0
      have q67_3 := Lq_64.frozen 1
      have q67_lt := Lq_64.lt
      have q68_0 := Lr_64.cell0
      have q68_1 := Lr_64.cell1
      have q68_2 := Lr_64.frozen 0
      have q68_3 := Lr_64.frozen 1
      have q68_lt := Lr_64.lt
      go_wp2_with fail
      have Hq_69 := Lib.hid (LV.soft Hq_54.out ((S62.out).trans (S64.out)))
      have Hr_70 := Lib.hid (LV.soft Hr_59.out ((S62.out).trans (S64.out)))
      refine (step_any' _ b up _ _ v d HV.out HD.out (hw.step HBP64.out) (by rw [← HP.out, ← HN.out, ← HQ.out]; exact Hq_69.out) (by rw [← HP.out, ← HN.out, ← HR.out]; exact Hr_70.out)).mono ?_
      rintro e w65 ⟨hb65, v5, rfl, hv5⟩
      have B71 := Lib.hid hb65
      have z71 := B71.out.size
      have HB72 := Lib.hid (HBP64.out.trans (B71.out.mono HBP64.out.size))
      clear hb65
      clear q66_0 q66_lt q67_0 q67_1 q67_2 q67_3 q67_lt q68_0 q68_1 q68_2 q68_3 q68_lt
      obtain ⟨s, hs⟩ : ∃ s : Int, s = rndZ v d up := ⟨_, rfl⟩; rw [← hs] at hv5; have HS := Lib.hid hs; have HS0 := Lib.hid (show s.natAbs ≤ 4503599627370496 * 1000000000000 by rw [hs]; exact rnd_small HV.out HD.out); clear hs
      obtain ⟨n73, Ad73, l73, c73, rfl, hv73⟩ := hv5.opened
      have Hs_73 := Lib.hid hv73
      clear hv5 hv73
      have Lq_74 := LB.step Lq_64 B71.out
      have q75_0 := Lq_74.cell0
      have q75_1 := Lq_74.cell1
      have q75_2 := Lq_74.frozen 0
      have q75_3 := Lq_74.frozen 1
      have q75_lt := Lq_74.lt
      go_upto_region 5 with (fail)
      clear q75_0 q75_1 q75_2 q75_3 q75_lt
      obtain ⟨w76, hW76⟩ : ∃ w76 : World, w76 = (w65.setCell ⟨bn55_q, 0, none⟩ (.bool n73)).setCell ⟨bn55_q, 1, none⟩ (.slice Ad73 l73 c73) := ⟨_, rfl⟩
      rw [← hW76]
      have S76 := Lib.hid (show Soft w65 w76 by rw [hW76]; exact soft_put Lq_74)
      have Lq_76 : LB w76 (bn55_q) (.bool n73) (.slice Ad73 l73 c73) := by rw [hW76]; exact (Lq_74.set0 _).set1 _
      have HBP76 := Lib.hid (show Below w.heap.size w w76 by rw [hW76]; exact below_set1 (below_set1 HB72.out (by omega) _ _) (by omega) _ _)
      have zw76 : w76.heap.size = w65.heap.size := by rw [hW76]; simp [World.setCell]
      clear hW76
      have q78_0 := Lq_76.cell0
      have q78_1 := Lq_76.cell1
      have q78_2 := Lq_76.frozen 0
      have q78_3 := Lq_76.frozen 1
      have q78_lt := Lq_76.lt
      go_wp2_with fail
      have Hs_79 := Lib.hid (LV.soft Hs_73.out (S76.out))
      refine (Text_num Hs_79.out (fit_mid (by have := HS0.out; omega)) (G.step HBP76.out)).mono ?_
      rintro e w77 ⟨hb77, rfl⟩
      have B80 := Lib.hid hb77
      have z80 := B80.out.size
      have HB81 := Lib.hid (HBP76.out.trans (B80.out.mono HBP76.out.size))
      clear hb77
      clear q78_0 q78_1 q78_2 q78_3 q78_lt
      go_wp2_with fail
      refine (written_any _ s _ d rfl (by rw [Lib.size_eq]; exact Nat.le_trans (itoa_mid (by have := HS0.out; omega)) (by omega)) (by omega)).mono ?_
      rintro e w82 ⟨hb82, t, rfl, ht⟩
      have B83 := Lib.hid hb82
      have z83 := B83.out.size
      have HB84 := Lib.hid (HB81.out.trans (B83.out.mono HB81.out.size))
      clear hb82
      go_wp2
      go_ret
      exact ⟨HB84.out, t, rfl, by rw [ht, HS.out]⟩
end Go.Proofs.YtfklkphoplpebaaGreatDoor
