/- Layer 04: Span, Near (written by gen_qm.py). -/
import Derived.Test.YtioclokmbgmamaaGreatDoorQL
import Derived.Test.YtioclokmbgmamaaGreatDoorQG
namespace Go.Proofs.YtioclokmbgmamaaGreatDoor
open Go Go.RowKit Dig
noncomputable def spanV (z : Int) (d : Nat) : (Int × Int) × Int :=
 if (z / (d : Int)).natAbs ≤ 4503599627370496 ∧ (if z % (d : Int) ≠ 0 then z / (d : Int) + 1 else z / (d : Int)) ≤ 4503599627370496 then ((z / (d : Int), if z % (d : Int) ≠ 0 then z / (d : Int) + 1 else z / (d : Int)), 0) else ((0, 0), 6)
noncomputable def spanQ : Option Rat → (Int × Int) × Int
 | some q => spanV (q.num * 4294967296) q.den
 | none => ((0, 0), 40)
def RetSp (r : (Int × Int) × Int) (e : Ending) : Prop := e = .returned (.tuple #[.agg #[.int .i64 r.1.1, .int .i64 r.1.2], .int .i64 r.2])
theorem dig2 : dig 2 = [2] := dig_one (by omega) (by omega)
theorem numN_yes {z m : Int} (h : z.natAbs ≤ m.natAbs) : numN z m = .tuple #[.int .i64 z, .bool true] := by unfold numN; rw [if_pos h, decide_eq_true h]
theorem numN_no {z m : Int} (h : ¬ z.natAbs ≤ m.natAbs) : numN z m = .tuple #[.int .i64 0, .bool false] := by unfold numN; rw [if_neg h, decide_eq_false h]
theorem SB.put {fn : Func} {p k : Tmp} {W w : World} {B b : Nat} {x y x0 y0 : Int} {r : (Int × Int) × Int} {tmps : Array Value} (hf : fn.results = #[.cell p 52, .tmp k]) (hC : CB w b 52 #[.int .i64 x0, .int .i64 y0]) (hb : Below B W w) (hB : B ≤ b)
  (hr1 : r.1 = (x, y)) (hp : tmps.getD p undef = .pointer (some ⟨b, 0, none⟩)) (hk : tmps.getD k undef = .int .i64 r.2) :
  bodyPost Tryz.prog fn (fun e w' => Below B W w' ∧ RetSp r e) .ret ⟨tmps, []⟩ ((w.setCell ⟨b, 0, none⟩ (.int .i64 x)).setCell ⟨b, 1, none⟩ (.int .i64 y)) := by
 have h1 : CB _ b _ #[.int .i64 x, .int .i64 y0] := CB.set hC 0 (.int .i64 x)
 have h2 : CB _ b _ #[.int .i64 x, .int .i64 y] := CB.set h1 1 (.int .i64 y)
 exact bodyPost_ret (SB.ret hf _ h2 hp) rfl ⟨((hb.setCell hB _).setCell hB _), by unfold RetSp; rw [hk, hr1]⟩
theorem QCheck_no {w : World} {v : Value} {n m : Bool} {a b : List Int} (h : QR w w.heap.size v n a m b) (hq : qOf n a m b = none) :
  Calls Tryz.prog 45 #[v] w fun e w' => Below w.heap.size w w' ∧ e = .returned (.int .i64 40) := by
 have h1 := QCheck_any w v _ _ _ _ h
 rw [chkQ_none hq] at h1
 exact h1
set_option maxRecDepth 100000 in
set_option maxHeartbeats 4000000 in
theorem QSpan_bad (w : World) (va : Value) (n m : Bool) (a b : List Int) (ha : QR w w.heap.size va n a m b) (hbad : qOf n a m b = none) :
  Calls Tryz.prog 25 #[va] w fun e w' => Below w.heap.size w w' ∧ RetSp ((0, 0), 40) e := by
 obtain ⟨A, l, c, A', l', c', rfl, ha⟩ := RI.of ha
 have HA := Lib.hid ha; have HC := Lib.hid hbad; clear ha hbad
 obtain ⟨w0, hw0⟩ : ∃ w0 : World, w0 = ((w.alloc (.cells #[.bool n, .slice A l c, .bool m, .slice A' l' c'] 26)).alloc (.cells #[.int .i64 0, .int .i64 0] 52)) := ⟨_, rfl⟩
 have B0 := Lib.hid (show Below w.heap.size w w0 by rw [hw0]; (repeat' (first | exact Below.refl _ _ | refine Below.drew ?_ | refine Below.alloc ?_ (by first | exact Nat.le_refl _ | (simp; done) | (simp; omega)) _)))
 have z0 : w.heap.size + 2 ≤ w0.heap.size := by rw [hw0]; simp
 have La : CB w0 (w.heap.size) 26 #[.bool n, .slice A l c, .bool m, .slice A' l' c'] := by rw [hw0]; have h := (CB.new w 26 #[.bool n, .slice A l c, .bool m, .slice A' l' c']).alloc (.cells #[.int .i64 0, .int .i64 0] 52); simpa using h
 have Lr2 : CB w0 (w.heap.size + 1) 52 #[.int .i64 0, .int .i64 0] := by rw [hw0]; have h := CB.new (w.alloc (.cells #[.bool n, .slice A l c, .bool m, .slice A' l' c'] 26)) 52 #[.int .i64 0, .int .i64 0]; simpa using h
 replace HA := Lib.hid (QR.step HA.out B0.out)
 go_enter Tryz.func25, Tryz.ntmps25
 go_upto_region 1 with (fail)
 rw [← hw0]; clear hw0
 have q2_0 := La.cell 0 rfl
 have q2_1 := La.cell 1 rfl
 have q2_2 := La.cell 2 rfl
 have q2_3 := La.cell 3 rfl
 have q2_lt := La.lt
 go_wp2_with fail
 refine (QCheck_no HA.out HC.out).mono ?_
 rintro e w1 ⟨hb1, rfl⟩
 have B3 := Lib.hid hb1
 have z3 := B3.out.size
 have HB4 := Lib.hid (B0.out.trans (B3.out.mono B0.out.size))
 clear hb1
 clear q2_0 q2_1 q2_2 q2_3 q2_lt
 have Lr2_5 := CB.step Lr2 B3.out
 have q6_0 := Lr2_5.cell 0 rfl
 have q6_1 := Lr2_5.cell 1 rfl
 have q6_lt := Lr2_5.lt
 have q7_0 := Lr2_5.frozen 0
 have q7_1 := Lr2_5.frozen 1
 have q7_lt := Lr2_5.lt
 go_wp2
 exact SB.put rfl Lr2_5 HB4.out (by omega) rfl rfl rfl
set_option maxRecDepth 100000 in
set_option maxHeartbeats 4000000 in
theorem QSpan_good (w : World) (va : Value) (q : Rat) (ha : QV w w.heap.size va q) (lq : QL 600 600 q) (G : Glob w) :
  Calls Tryz.prog 25 #[va] w fun e w' => Below w.heap.size w w' ∧ RetSp (spanQ (some q)) e := by
 obtain ⟨y, hy⟩ : ∃ y, y = q.num * 4294967296 := ⟨_, rfl⟩; obtain ⟨z, hz⟩ : ∃ z, z = y / (q.den : Int) := ⟨_, rfl⟩; obtain ⟨t, ht⟩ : ∃ t, t = spanQ (some q) := ⟨_, rfl⟩; rw [← ht]
 obtain ⟨more, hm⟩ : ∃ b : Bool, b = decide (y % (q.den : Int) ≠ 0) := ⟨_, rfl⟩
 have hs : t = if z.natAbs ≤ 4503599627370496 ∧ (if more = true then z + 1 else z) ≤ 4503599627370496 then ((z, if more = true then z + 1 else z), 0) else ((0, 0), 6) := by
  rw [ht, spanQ, ← hy, spanV, ← hz, hm]; simp only [decide_eq_true_eq]
 have lY : (dig y.natAbs).length ≤ 602 := by rw [hy, Int.natAbs_mul]; have h1 := dig_len_mul q.num.natAbs (4294967296 : Int).natAbs; have h2 : (dig (4294967296 : Int).natAbs).length ≤ 2 := (by rw [dig_len_le]; decide); have := lq.1; omega
 have lZ : (dig z.natAbs).length ≤ 604 := by rw [hz]; have := floor_len y q.den_nz; omega
 have HL := Lib.hid (And.intro lY (And.intro lZ (And.intro lq.1 lq.2))); have HY := Lib.hid hy; have HZ := Lib.hid hz; have HS := Lib.hid hs; have HM := Lib.hid hm; clear lY lZ hs hm hz hy ht
 obtain ⟨n, A, l, c, m, A', l', c', rfl⟩ := QO.cells (show QO w w.heap.size va (some q) from ha)
 obtain rfl := (QV.is ha).2.2.2
 have HA := Lib.hid ha; have HLQ := Lib.hid lq; clear ha lq
 obtain ⟨w0, hw0⟩ : ∃ w0 : World, w0 = ((w.alloc (.cells #[.bool n, .slice A l c, .bool false, .slice A' l' c'] 26)).alloc (.cells #[.int .i64 0, .int .i64 0] 52)) := ⟨_, rfl⟩
 have B0 := Lib.hid (show Below w.heap.size w w0 by rw [hw0]; (repeat' (first | exact Below.refl _ _ | refine Below.drew ?_ | refine Below.alloc ?_ (by first | exact Nat.le_refl _ | (simp; done) | (simp; omega)) _)))
 have z0 : w.heap.size + 2 ≤ w0.heap.size := by rw [hw0]; simp
 have La : CB w0 (w.heap.size) 26 #[.bool n, .slice A l c, .bool false, .slice A' l' c'] := by rw [hw0]; have h := (CB.new w 26 #[.bool n, .slice A l c, .bool false, .slice A' l' c']).alloc (.cells #[.int .i64 0, .int .i64 0] 52); simpa using h
 have Lr2 : CB w0 (w.heap.size + 1) 52 #[.int .i64 0, .int .i64 0] := by rw [hw0]; have h := CB.new (w.alloc (.cells #[.bool n, .slice A l c, .bool false, .slice A' l' c'] 26)) 52 #[.int .i64 0, .int .i64 0]; simpa using h
 replace HA := Lib.hid (QV.step HA.out B0.out)
 go_enter Tryz.func25, Tryz.ntmps25
 go_upto_region 1 with (fail)
 rw [← hw0]; clear hw0
 have q2_0 := La.cell 0 rfl
 have q2_1 := La.cell 1 rfl
 have q2_2 := La.cell 2 rfl
 have q2_3 := La.cell 3 rfl
 have q2_lt := La.lt
 go_wp2_with fail
 refine (QCheck_good HA.out HLQ.out).mono ?_
 rintro e w1 ⟨hb1, rfl⟩
 have B3 := Lib.hid hb1
 have z3 := B3.out.size
 have HB4 := Lib.hid (B0.out.trans (B3.out.mono B0.out.size))
 clear hb1
 clear q2_0 q2_1 q2_2 q2_3 q2_lt
 have La_6 := CB.step La B3.out
 have q7_0 := La_6.cell 0 rfl
 have q7_1 := La_6.cell 1 rfl
 have q7_2 := La_6.cell 2 rfl
 have q7_3 := La_6.cell 3 rfl
 have q7_lt := La_6.lt
 go_wp2_with fail
 refine (Read_any _ n false A A' l c l' c').mono ?_
 rintro e w5 ⟨hb5, rfl⟩
 have B8 := Lib.hid hb5
 have z8 := B8.out.size
 have HB9 := Lib.hid (HB4.out.trans (B8.out.mono HB4.out.size))
 clear hb5
 clear q7_0 q7_1 q7_2 q7_3 q7_lt
 go_upto_region 5 with (fail)
 obtain ⟨w10, hW10⟩ : ∃ w10 : World, w10 = (w5.alloc (.cells #[.bool n, .slice A l c, .slice A' l' c'] 95)) := ⟨_, rfl⟩; rw [← hW10]
 have hb10 : Below w5.heap.size w5 w10 := by rw [hW10]; (repeat' (first | exact Below.refl _ _ | refine Below.drew ?_ | refine Below.alloc ?_ (by first | exact Nat.le_refl _ | (simp; done) | (simp; omega)) _))
 have Lr_10 : CB w10 (w5.heap.size) 95 #[.bool n, .slice A l c, .slice A' l' c'] := by rw [hW10]; have h := CB.new w5 95 #[.bool n, .slice A l c, .slice A' l' c']; simpa using h
 have za10 : w5.heap.size + 1 ≤ w10.heap.size := by rw [hW10]; simp
 have B11 := Lib.hid hb10
 have z11 := B11.out.size
 have HB12 := Lib.hid (HB9.out.trans (B11.out.mono HB9.out.size))
 clear hb10 hW10
 have P1_3_13 := Lib.hid (B3.out.trans (B8.out.mono B3.out.size))
 have P1_4_14 := Lib.hid (P1_3_13.out.trans (B11.out.mono P1_3_13.out.size))
 have Ha_15 := Lib.hid (QV.step HA.out P1_4_14.out)
 have HRW := Lib.hid (TV.fst (QV.read Ha_15.out)); have HRD := Lib.hid (TV.is (QV.read Ha_15.out)).2.1
 have HY2 := Lib.hid (show ∀ w B v, WV w B v (q.num * (((4294967296 : Int).natAbs : Nat) : Int)) → WV w B v y from fun w B v h => by rw [HY.out]; exact h); have HP2 := Lib.hid (show (dig (4294967296 : Int).natAbs).length ≤ 100000 by exact Nat.le_trans (show (dig (4294967296 : Int).natAbs).length ≤ 2 by rw [dig_len_le]; decide) (by decide))
 refine Flow.run [⟨0, 19, fun fv fw => fv = .pointer (some ⟨w5.heap.size, 0, none⟩)⟩, ⟨1, 20, fun fv fw => fv = .agg #[.bool n, .slice A l c]⟩, ⟨2, 21, fun fv fw => LV fw fw.heap.size fv (4294967296 : Int)⟩, ⟨3, 22, fun fv fw => RN fw fw.heap.size fv (dig ((4294967296 : Int)).natAbs)⟩, ⟨4, 23, fun fv fw => WV fw fw.heap.size fv y⟩, ⟨5, 24, fun fv fw => fv = .pointer (some ⟨w5.heap.size, 0, none⟩)⟩] [] [] 1 (by kernel_rfl) (by kernel_rfl) (by kernel_rfl) (fun _ _ _ _ _ h => h) ?_ ?_ ?_ ?_
 ·refine (all_cons (fun v w1 w2 h hb => h) (all_cons (fun v w1 w2 h hb => h) (all_cons (fun v w1 w2 h hb => h.step hb) (all_cons (fun v w1 w2 h hb => h.step hb) (all_cons (fun v w1 w2 h hb => h.step hb) (all_cons (fun v w1 w2 h hb => h) all_nil))))))
 ·refine (all_cons ?_ (all_cons ?_ (all_cons ?_ (all_cons ?_ (all_cons ?_ (all_cons ?_ all_nil))))))
  ·intro xs wk16 hBk hdep
   have HBk16 := Lib.hid hBk; have zk16 := hBk.size; clear hBk
   clear hdep
   refine wpOp_step (o := _) rfl (fun K hK => ?_)
   simp only [FL]
   go_simp
   refine hK _ _ ⟨.pointer (some ⟨w5.heap.size, 0, none⟩), by kernel_rfl, Below.refl _ _, rfl, nF⟩
  ·intro xs wk17 hBk hdep
   have HBk17 := Lib.hid hBk; have zk17 := hBk.size; clear hBk
   have f0 : (xs 0) = .pointer (some ⟨w5.heap.size, 0, none⟩) := hdep _ (m_ 0 rfl) (by kernel_rfl)
   clear hdep
   refine wpOp_step (o := _) rfl (fun K hK => ?_)
   simp only [FL]
   have Lr_18 := CB.step Lr_10 HBk17.out
   have q19_0 := Lr_18.cell 0 rfl
   have q19_1 := Lr_18.cell 1 rfl
   go_simp
   refine hK _ _ ⟨.agg #[.bool n, .slice A l c], by simp only [FL, f0] <;> kernel_rfl, Below.refl _ _, rfl, nF⟩
  ·intro xs wk20 hBk hdep
   have HBk20 := Lib.hid hBk; have zk20 := hBk.size; clear hBk
   clear hdep
   refine wpOp_step (o := _) rfl (fun K hK => ?_)
   simp only [FL]
   go_simp
   (with_reducible refine (Of_any _ 4294967296 (by decide) (by decide)).mono ?_)
   rintro e wc21 ⟨hb21, v21, rfl, hv21⟩
   refine hK _ _ ⟨v21, by kernel_rfl, hb21, hv21, nF⟩
  ·intro xs wk22 hBk hdep
   have HBk22 := Lib.hid hBk; have zk22 := hBk.size; clear hBk
   have f2 : LV wk22 wk22.heap.size (xs 2) (4294967296 : Int) := hdep _ (m_ 2 rfl) (by kernel_rfl)
   clear hdep
   refine wpOp_step (o := _) rfl (fun K hK => ?_)
   simp only [FL]
   obtain ⟨on2, oA2, ol2, oc2, hx2, hv2⟩ := LV.opened f2; have r2 := (LV.is hv2).2.2; rw [hx2]; clear hv2
   go_simp
   refine hK _ _ ⟨.slice oA2 ol2 oc2, by simp only [FL, hx2] <;> kernel_rfl, Below.refl _ _, r2, nF⟩
  ·intro xs wk23 hBk hdep
   have HBk23 := Lib.hid hBk; have zk23 := hBk.size; clear hBk
   have f1 : (xs 1) = .agg #[.bool n, .slice A l c] := hdep _ (m_ 1 rfl) (by kernel_rfl)
   have f3 : RN wk23 wk23.heap.size (xs 3) (dig ((4294967296 : Int)).natAbs) := hdep _ (m_ 3 rfl) (by kernel_rfl)
   clear hdep
   refine wpOp_step (o := _) rfl (fun K hK => ?_)
   simp only [FL]
   go_simp
   have Hrw_24 := Lib.hid (WV.step HRW.out HBk23.out)
   (with_reducible refine (wtimes_any _ _ _ q.num (4294967296 : Int).natAbs Hrw_24.out f3 (by have := HL.out; omega) HP2.out).mono ?_)
   rintro e wc25 ⟨hb25, v25, rfl, hv25⟩
   refine hK _ _ ⟨v25, by simp only [FL, f1] <;> kernel_rfl, hb25, HY2.out _ _ _ hv25, nF⟩
  ·intro xs wk26 hBk hdep
   have HBk26 := Lib.hid hBk; have zk26 := hBk.size; clear hBk
   clear hdep
   refine wpOp_step (o := _) rfl (fun K hK => ?_)
   simp only [FL]
   go_simp
   refine hK _ _ ⟨.pointer (some ⟨w5.heap.size, 0, none⟩), by kernel_rfl, Below.refl _ _, rfl, nF⟩
 ·exact all_nil
 ·intro xs wf27 hbf hf hn hd
  have f0 : (xs 0) = .pointer (some ⟨w5.heap.size, 0, none⟩) := hf _ (m_ 0 rfl)
  have f1 : (xs 1) = .agg #[.bool n, .slice A l c] := hf _ (m_ 1 rfl)
  have f2 : LV wf27 wf27.heap.size (xs 2) (4294967296 : Int) := hf _ (m_ 2 rfl)
  have f3 : RN wf27 wf27.heap.size (xs 3) (dig ((4294967296 : Int)).natAbs) := hf _ (m_ 3 rfl)
  have f4 : WV wf27 wf27.heap.size (xs 4) y := hf _ (m_ 4 rfl)
  have f5 : (xs 5) = .pointer (some ⟨w5.heap.size, 0, none⟩) := hf _ (m_ 5 rfl)
  clear hf hn hd
  simp only [FL]
  have B28 := Lib.hid hbf
  have z28 := B28.out.size
  have HB29 := Lib.hid (HB12.out.trans (B28.out.mono HB12.out.size))
  clear hbf
  generalize xs 0 = x0 at *
  generalize xs 1 = x1 at *
  generalize xs 2 = x2 at *
  generalize xs 3 = x3 at *
  generalize xs 4 = x4 at *
  generalize xs 5 = x5 at *
  obtain rfl := f0
  obtain rfl := f1
  obtain ⟨n30, Ad30, l30, c30, rfl, hv30⟩ := f2.opened
  have Hone_30 := Lib.hid hv30
  clear f2 hv30
  clear f3
  obtain ⟨on31, oA31, ol31, oc31, rfl, ha31, hb31⟩ := f4
  have Hy_31 := Lib.hid (WV.mk ha31 hb31)
  clear ha31 hb31
  obtain rfl := f5
  have Lr_32 := CB.step Lr_10 B28.out
  have q33_0 := Lr_32.cell 0 rfl
  have q33_1 := Lr_32.cell 1 rfl
  have q33_2 := Lr_32.cell 2 rfl
  have q33_lt := Lr_32.lt
  have q34_0 := Lr_32.frozen 0
  have q34_1 := Lr_32.frozen 1
  have q34_2 := Lr_32.frozen 2
  have q34_lt := Lr_32.lt
  refine Early.next (i := 6) (by kernel_rfl) rfl (fun K hK => ?_)
  go_simp
  refine hK _ _ (fun _ => trivial) ?_
  clear hK K
  (try simp only [Act.put, List.setIfInBounds_toArray, List.set_cons_zero, List.set_cons_succ])
  clear q33_0 q33_1 q33_2 q33_lt q34_0 q34_1 q34_2 q34_lt
  refine Early.done (by kernel_rfl) ?_ _
  (try simp only [Exit.then])
  have P2_4_36 := Lib.hid (B8.out.trans (B11.out.mono B8.out.size))
  have P2_5_37 := Lib.hid (P2_4_36.out.trans (B28.out.mono P2_4_36.out.size))
  have La_35 := CB.step La_6 P2_5_37.out
  have P1_5_39 := Lib.hid (P1_4_14.out.trans (B28.out.mono P1_4_14.out.size))
  have Lr2_38 := CB.step Lr2 P1_5_39.out
  obtain ⟨w40, hW40⟩ : ∃ w40 : World, w40 = ((wf27.setCell ⟨w5.heap.size, 0, none⟩ (.bool on31)).setCell ⟨w5.heap.size, 1, none⟩ (.slice oA31 ol31 oc31)) := ⟨_, rfl⟩
  rw [← hW40]
  have S40 := Lib.hid (show Soft wf27 w40 by rw [hW40]; exact (CB.soft1 (Lr_32) (by simp [noInt_b, noInt_s]) 0 (.bool on31)).trans (CB.soft1 ((show CB _ (w5.heap.size) 95 #[.bool on31, .slice A l c, .slice A' l' c'] from CB.set (Lr_32) 0 (.bool on31))) (by simp [noInt_b, noInt_s]) 1 (.slice oA31 ol31 oc31)))
  have La_40 : CB w40 (w.heap.size) 26 #[.bool n, .slice A l c, .bool false, .slice A' l' c'] := by rw [hW40]; exact CB.far (p := ⟨w5.heap.size, 1, none⟩) (CB.far (p := ⟨w5.heap.size, 0, none⟩) (La_35) (show w.heap.size ≠ w5.heap.size from by omega) _) (show w.heap.size ≠ w5.heap.size from by omega) _
  have Lr2_40 : CB w40 (w.heap.size + 1) 52 #[.int .i64 0, .int .i64 0] := by rw [hW40]; exact CB.far (p := ⟨w5.heap.size, 1, none⟩) (CB.far (p := ⟨w5.heap.size, 0, none⟩) (Lr2_38) (show w.heap.size + 1 ≠ w5.heap.size from by omega) _) (show w.heap.size + 1 ≠ w5.heap.size from by omega) _
  have Lr_40 : CB w40 (w5.heap.size) 95 #[.bool on31, .slice oA31 ol31 oc31, .slice A' l' c'] := by rw [hW40]; exact (show CB _ (w5.heap.size) 95 #[.bool on31, .slice oA31 ol31 oc31, .slice A' l' c'] from CB.set ((show CB _ (w5.heap.size) 95 #[.bool on31, .slice A l c, .slice A' l' c'] from CB.set (Lr_32) 0 (.bool on31))) 1 (.slice oA31 ol31 oc31))
  have HBP40 := Lib.hid (show Below w.heap.size w w40 by rw [hW40]; exact below_set1 (below_set1 (HB29.out) (by omega) _ _) (by omega) _ _)
  have zw40 : w40.heap.size = wf27.heap.size := by rw [hW40]; simp [World.setCell]
  clear hW40
  have Hy_41 := Lib.hid (WV.soft Hy_31.out (S40.out))
  have Hrd_42 := Lib.hid (RN.soft HRD.out ((Soft.of B28.out).trans (S40.out)))
  have HRT := Lib.hid (show TV w40 w40.heap.size (.agg #[.bool on31, .slice oA31 ol31 oc31, .slice A' l' c']) y q.den from TV.mk (WV.is Hy_41.out).1 Hrd_42.out (WV.is Hy_41.out).2)
  have q44_0 := Lr_40.cell 0 rfl
  have q44_1 := Lr_40.cell 1 rfl
  have q44_2 := Lr_40.cell 2 rfl
  have q44_lt := Lr_40.lt
  go_wp2_with fail
  refine (floor_any _ _ y q.den HRT.out q.den_nz (by have := HL.out; omega)).mono ?_
  rintro e w43 ⟨hb43, v, rfl, hv⟩
  have B45 := Lib.hid hb43
  have z45 := B45.out.size
  have HB46 := Lib.hid (HBP40.out.trans (B45.out.mono HBP40.out.size))
  clear hb43
  clear q44_0 q44_1 q44_2 q44_lt
  rw [← HZ.out] at hv; rw [← HM.out]
  obtain ⟨on47, oA47, ol47, oc47, rfl, ha47, hb47⟩ := hv
  have Hf_47 := Lib.hid (WV.mk ha47 hb47)
  clear ha47 hb47
  go_upto_region 7 with (fail)
  obtain ⟨w48, hW48⟩ : ∃ w48 : World, w48 = (w43.alloc (.cells #[.bool on47, .slice oA47 ol47 oc47] 93)) := ⟨_, rfl⟩; rw [← hW48]
  have hb48 : Below w43.heap.size w43 w48 := by rw [hW48]; (repeat' (first | exact Below.refl _ _ | refine Below.drew ?_ | refine Below.alloc ?_ (by first | exact Nat.le_refl _ | (simp; done) | (simp; omega)) _))
  have Ln_48 : CB w48 (w43.heap.size) 93 #[.bool on47, .slice oA47 ol47 oc47] := by rw [hW48]; have h := CB.new w43 93 #[.bool on47, .slice oA47 ol47 oc47]; simpa using h
  have za48 : w43.heap.size + 1 ≤ w48.heap.size := by rw [hW48]; simp
  have B49 := Lib.hid hb48
  have z49 := B49.out.size
  have HB50 := Lib.hid (HB46.out.trans (B49.out.mono HB46.out.size))
  clear hb48 hW48
  have q52_0 := Ln_48.cell 0 rfl
  have q52_1 := Ln_48.cell 1 rfl
  have q52_lt := Ln_48.lt
  go_wp2_with fail
  have Hf_53 := Lib.hid (WV.step Hf_47.out B49.out)
  refine (number_any _ _ z 4503599627370496 Hf_53.out (by decide) (by decide) (by have := HL.out; omega) (G.step HB50.out)).mono ?_
  rintro e w51 ⟨hb51, rfl⟩
  have B54 := Lib.hid hb51
  have z54 := B54.out.size
  have HB55 := Lib.hid (HB50.out.trans (B54.out.mono HB50.out.size))
  clear hb51
  clear q52_0 q52_1 q52_lt
  by_cases hfit : z.natAbs ≤ 4503599627370496
  ·rw [numN_yes (show z.natAbs ≤ (4503599627370496 : Int).natAbs from hfit)]
   have hz0 : -4503599627370496 ≤ z := by omega
   have hz1 : z ≤ 4503599627370496 := by omega
   cases more with
   | false =>
    have HT := Lib.hid (show t = ((z, z), 0) by rw [HS.out]; simp only [Bool.false_eq_true, if_false]; exact if_pos ⟨hfit, hz1⟩); clear hfit
    have P6_8_57 := Lib.hid (B45.out.trans (B49.out.mono B45.out.size))
    have P6_9_58 := Lib.hid (P6_8_57.out.trans (B54.out.mono P6_8_57.out.size))
    have Lr2_56 := CB.step Lr2_40 P6_9_58.out
    have q59_0 := Lr2_56.cell 0 rfl
    have q59_1 := Lr2_56.cell 1 rfl
    have q59_lt := Lr2_56.lt
    have q60_0 := Lr2_56.frozen 0
    have q60_1 := Lr2_56.frozen 1
    have q60_lt := Lr2_56.lt
    go_wp2
    clear q59_0 q59_1 q59_lt q60_0 q60_1 q60_lt
    exact SB.put rfl Lr2_56 HB55.out (by omega) (by rw [HT.out]) rfl (by rw [HT.out]; rfl)
   | true =>
    have hz3 : z + 1 ≤ 4503599627370497 := by omega
    by_cases hh : z + 1 ≤ 4503599627370496
    ·have HT := Lib.hid (show t = ((z, z + 1), 0) by rw [HS.out]; simp only [if_true]; exact if_pos ⟨hfit, hh⟩); clear hfit
     have hh2 : ¬ 4503599627370496 < z + 1 := by omega
     have P6_8_62 := Lib.hid (B45.out.trans (B49.out.mono B45.out.size))
     have P6_9_63 := Lib.hid (P6_8_62.out.trans (B54.out.mono P6_8_62.out.size))
     have Lr2_61 := CB.step Lr2_40 P6_9_63.out
     have q64_0 := Lr2_61.cell 0 rfl
     have q64_1 := Lr2_61.cell 1 rfl
     have q64_lt := Lr2_61.lt
     have q65_0 := Lr2_61.frozen 0
     have q65_1 := Lr2_61.frozen 1
     have q65_lt := Lr2_61.lt
     go_wp2
     clear q64_0 q64_1 q64_lt q65_0 q65_1 q65_lt
     exact SB.put rfl Lr2_61 HB55.out (by omega) (by rw [HT.out]) rfl (by rw [HT.out]; rfl)
    ·have HT := Lib.hid (show t = ((0, 0), 6) by rw [HS.out]; simp only [if_true]; exact if_neg (fun h => hh h.2)); clear hfit
     have hh2 : 4503599627370496 < z + 1 := by omega
     have P6_8_67 := Lib.hid (B45.out.trans (B49.out.mono B45.out.size))
     have P6_9_68 := Lib.hid (P6_8_67.out.trans (B54.out.mono P6_8_67.out.size))
     have Lr2_66 := CB.step Lr2_40 P6_9_68.out
     have q69_0 := Lr2_66.cell 0 rfl
     have q69_1 := Lr2_66.cell 1 rfl
     have q69_lt := Lr2_66.lt
     have q70_0 := Lr2_66.frozen 0
     have q70_1 := Lr2_66.frozen 1
     have q70_lt := Lr2_66.lt
     go_wp2
     clear q69_0 q69_1 q69_lt q70_0 q70_1 q70_lt
     exact SB.put rfl Lr2_66 HB55.out (by omega) (by rw [HT.out]) rfl (by rw [HT.out]; rfl)
  ·rw [numN_no (show ¬ z.natAbs ≤ (4503599627370496 : Int).natAbs from hfit)]
   have HT := Lib.hid (show t = ((0, 0), 6) by rw [HS.out]; exact if_neg (fun h => hfit h.1)); clear hfit
   cases more with
   | false =>
    have P6_8_72 := Lib.hid (B45.out.trans (B49.out.mono B45.out.size))
    have P6_9_73 := Lib.hid (P6_8_72.out.trans (B54.out.mono P6_8_72.out.size))
    have Lr2_71 := CB.step Lr2_40 P6_9_73.out
    have q74_0 := Lr2_71.cell 0 rfl
    have q74_1 := Lr2_71.cell 1 rfl
    have q74_lt := Lr2_71.lt
    have q75_0 := Lr2_71.frozen 0
    have q75_1 := Lr2_71.frozen 1
    have q75_lt := Lr2_71.lt
    go_wp2
    clear q74_0 q74_1 q74_lt q75_0 q75_1 q75_lt
    exact SB.put rfl Lr2_71 HB55.out (by omega) (by rw [HT.out]) rfl (by rw [HT.out]; rfl)
   | true =>
    have P6_8_77 := Lib.hid (B45.out.trans (B49.out.mono B45.out.size))
    have P6_9_78 := Lib.hid (P6_8_77.out.trans (B54.out.mono P6_8_77.out.size))
    have Lr2_76 := CB.step Lr2_40 P6_9_78.out
    have q79_0 := Lr2_76.cell 0 rfl
    have q79_1 := Lr2_76.cell 1 rfl
    have q79_lt := Lr2_76.lt
    have q80_0 := Lr2_76.frozen 0
    have q80_1 := Lr2_76.frozen 1
    have q80_lt := Lr2_76.lt
    go_wp2
    clear q79_0 q79_1 q79_lt q80_0 q80_1 q80_lt
    exact SB.put rfl Lr2_76 HB55.out (by omega) (by rw [HT.out]) rfl (by rw [HT.out]; rfl)
noncomputable def nearV (z : Int) : Int × Int := if z.natAbs ≤ 4611686018427387904 then (z, 0) else (0, 6)
noncomputable def nearQ (o : Option Rat) (s : Int) : Int × Int :=
 match o with
 | some q => if s < 1 ∨ 1000000000000 < s then (0, 2) else nearV ((q.num * (2 * s) + (q.den : Int)) / ((q.den * 2 : Nat) : Int))
 | none => (0, 40)
set_option maxRecDepth 100000 in
set_option maxHeartbeats 4000000 in
theorem QNear_good (w : World) (va : Value) (q : Rat) (s : Int) (ha : QV w w.heap.size va q) (lq : QL 600 600 q) (G : Glob w) :
  Calls Tryz.prog 27 #[va, .int .i64 s] w fun e w' => Below w.heap.size w w' ∧ RetI (nearQ (some q) s) e := by
 obtain ⟨t, ht⟩ : ∃ t, t = nearQ (some q) s := ⟨_, rfl⟩; rw [← ht]
 obtain ⟨n, A, l, c, m, A', l', c', rfl⟩ := QO.cells (show QO w w.heap.size va (some q) from ha)
 obtain rfl := (QV.is ha).2.2.2
 have HA := Lib.hid ha; have HLQ := Lib.hid lq; have HT := Lib.hid ht; clear ha lq ht
 obtain ⟨w0, hw0⟩ : ∃ w0 : World, w0 = (w.alloc (.cells #[.bool n, .slice A l c, .bool false, .slice A' l' c'] 26)) := ⟨_, rfl⟩
 have B0 := Lib.hid (show Below w.heap.size w w0 by rw [hw0]; (repeat' (first | exact Below.refl _ _ | refine Below.drew ?_ | refine Below.alloc ?_ (by first | exact Nat.le_refl _ | (simp; done) | (simp; omega)) _)))
 have z0 : w.heap.size + 1 ≤ w0.heap.size := by rw [hw0]; simp
 have La : CB w0 (w.heap.size) 26 #[.bool n, .slice A l c, .bool false, .slice A' l' c'] := by rw [hw0]; have h := CB.new w 26 #[.bool n, .slice A l c, .bool false, .slice A' l' c']; simpa using h
 replace HA := Lib.hid (QV.step HA.out B0.out)
 by_cases hs : s < 1 ∨ 1000000000000 < s
 ·have HTT := Lib.hid (show t = (0, 2) by rw [HT.out]; exact if_pos hs)
  by_cases hs1 : s < 1
  ·clear hs
   go_enter Tryz.func27, Tryz.ntmps27
   go_upto_region 1 with (fail)
   rw [← hw0]; clear hw0
   have q2_0 := La.cell 0 rfl
   have q2_1 := La.cell 1 rfl
   have q2_2 := La.cell 2 rfl
   have q2_3 := La.cell 3 rfl
   have q2_lt := La.lt
   go_wp2_with fail
   refine (QCheck_good HA.out HLQ.out).mono ?_
   rintro e w1 ⟨hb1, rfl⟩
   have B3 := Lib.hid hb1
   have z3 := B3.out.size
   have HB4 := Lib.hid (B0.out.trans (B3.out.mono B0.out.size))
   clear hb1
   clear q2_0 q2_1 q2_2 q2_3 q2_lt
   go_wp2
   go_ret2
   exact ⟨HB4.out, by rw [HTT.out]; rfl⟩
  ·have hs2 : 1000000000000 < s := by omega
   clear hs
   go_enter Tryz.func27, Tryz.ntmps27
   go_upto_region 1 with (fail)
   rw [← hw0]; clear hw0
   have q6_0 := La.cell 0 rfl
   have q6_1 := La.cell 1 rfl
   have q6_2 := La.cell 2 rfl
   have q6_3 := La.cell 3 rfl
   have q6_lt := La.lt
   go_wp2_with fail
   refine (QCheck_good HA.out HLQ.out).mono ?_
   rintro e w5 ⟨hb5, rfl⟩
   have B7 := Lib.hid hb5
   have z7 := B7.out.size
   have HB8 := Lib.hid (B0.out.trans (B7.out.mono B0.out.size))
   clear hb5
   clear q6_0 q6_1 q6_2 q6_3 q6_lt
   go_wp2
   go_ret2
   exact ⟨HB8.out, by rw [HTT.out]; rfl⟩
 ·have hs1 : ¬ s < 1 := by omega
  have hs2 : ¬ 1000000000000 < s := by omega
  have hs3 : 1 ≤ s := by omega
  have hs4 : s ≤ 1000000000000 := by omega
  obtain ⟨k, hk⟩ : ∃ k, k = 2 * s := ⟨_, rfl⟩; have hk0 : 0 ≤ k := by omega
  have hk1 : k ≤ 2000000000000 := by omega
  obtain ⟨y, hy⟩ : ∃ y, y = q.num * k + (q.den : Int) := ⟨_, rfl⟩; obtain ⟨z, hz⟩ : ∃ z, z = y / ((q.den * 2 : Nat) : Int) := ⟨_, rfl⟩
  have HTT := Lib.hid (show t = nearV z by rw [HT.out, hz, hy, hk]; exact if_neg hs)
  have lK : (dig k.natAbs).length ≤ 2 := by rw [dig_len_le]; show k.natAbs < 1000000000000000000; omega
  have lP : (dig (q.num * ((k.natAbs : Nat) : Int)).natAbs).length ≤ 602 := by rw [Int.natAbs_mul, Int.natAbs_natCast]; have h1 := dig_len_mul q.num.natAbs k.natAbs; have := HLQ.out.1; omega
  have hkk : ((k.natAbs : Nat) : Int) = k := by omega
  have lY : (dig y.natAbs).length ≤ 603 := by rw [hy]; rw [hkk] at lP; exact Nat.le_trans (dig_len_mono (Int.natAbs_add_le _ _)) (dig_len_add _ _ lP (by rw [Int.natAbs_natCast]; have := HLQ.out.2; omega))
  have hd2 : q.den * 2 ≠ 0 := Nat.mul_ne_zero q.den_nz (by decide)
  have lD : (dig (q.den * 2)).length ≤ 601 := by have h1 := dig_len_mul q.den 2; rw [dig2] at h1; have := HLQ.out.2; simp at h1; omega
  have lZ : (dig z.natAbs).length ≤ 605 := by rw [hz]; have := floor_len y hd2; omega
  have HWY := Lib.hid (show ∀ w B v, WV w B v (q.num * ((k.natAbs : Nat) : Int) + (q.den : Int)) → WV w B v y from fun w B v h => by rw [hy, ← hkk]; exact h)
  have HL := Lib.hid (And.intro lK (And.intro lP (And.intro lY (And.intro lD (And.intro lZ (And.intro HLQ.out.1 HLQ.out.2)))))); have HZ := Lib.hid hz; have HD2 := Lib.hid hd2; have HK := Lib.hid hk; have HKB := Lib.hid (And.intro hk0 hk1)
  have HS0 := Lib.hid hs; clear lK lP hkk lY hd2 lD lZ hz hy hs
  have hkw : IntKind.i64.wrap k = k := IntWalk.i64_in _ (by omega)
  replace hk := hk.symm
  go_enter Tryz.func27, Tryz.ntmps27
  go_upto_region 1 with (fail)
  rw [← hw0]; clear hw0
  have q10_0 := La.cell 0 rfl
  have q10_1 := La.cell 1 rfl
  have q10_2 := La.cell 2 rfl
  have q10_3 := La.cell 3 rfl
  have q10_lt := La.lt
  go_wp2_with fail
  refine (QCheck_good HA.out HLQ.out).mono ?_
  rintro e w9 ⟨hb9, rfl⟩
  have B11 := Lib.hid hb9
  have z11 := B11.out.size
  have HB12 := Lib.hid (B0.out.trans (B11.out.mono B0.out.size))
  clear hb9
  clear q10_0 q10_1 q10_2 q10_3 q10_lt
  have La_14 := CB.step La B11.out
  have q15_0 := La_14.cell 0 rfl
  have q15_1 := La_14.cell 1 rfl
  have q15_2 := La_14.cell 2 rfl
  have q15_3 := La_14.cell 3 rfl
  have q15_lt := La_14.lt
  go_wp2_with fail
  refine (Read_any _ n false A A' l c l' c').mono ?_
  rintro e w13 ⟨hb13, rfl⟩
  have B16 := Lib.hid hb13
  have z16 := B16.out.size
  have HB17 := Lib.hid (HB12.out.trans (B16.out.mono HB12.out.size))
  clear hb13
  clear q15_0 q15_1 q15_2 q15_3 q15_lt
  go_upto_region 7 with (fail)
  obtain ⟨w18, hW18⟩ : ∃ w18 : World, w18 = (w13.alloc (.cells #[.bool n, .slice A l c, .slice A' l' c'] 95)) := ⟨_, rfl⟩; rw [← hW18]
  have hb18 : Below w13.heap.size w13 w18 := by rw [hW18]; (repeat' (first | exact Below.refl _ _ | refine Below.drew ?_ | refine Below.alloc ?_ (by first | exact Nat.le_refl _ | (simp; done) | (simp; omega)) _))
  have Lr_18 : CB w18 (w13.heap.size) 95 #[.bool n, .slice A l c, .slice A' l' c'] := by rw [hW18]; have h := CB.new w13 95 #[.bool n, .slice A l c, .slice A' l' c']; simpa using h
  have za18 : w13.heap.size + 1 ≤ w18.heap.size := by rw [hW18]; simp
  have B19 := Lib.hid hb18
  have z19 := B19.out.size
  have HB20 := Lib.hid (HB17.out.trans (B19.out.mono HB17.out.size))
  clear hb18 hW18
  have P1_3_21 := Lib.hid (B11.out.trans (B16.out.mono B11.out.size))
  have P1_4_22 := Lib.hid (P1_3_21.out.trans (B19.out.mono P1_3_21.out.size))
  have Ha_23 := Lib.hid (QV.step HA.out P1_4_22.out)
  have HRW := Lib.hid (TV.fst (QV.read Ha_23.out)); have HRD := Lib.hid (TV.is (QV.read Ha_23.out)).2.1
  have HDW := Lib.hid (show WV w18 w18.heap.size (.agg #[.bool false, .slice A' l' c']) (q.den : Int) from WV.mk (by rw [Int.natAbs_natCast]; exact HRD.out) (fun _ => by rw [decide_eq_false (by omega)]))
  refine Flow.run [⟨0, 26, fun fv fw => fv = .pointer (some ⟨w13.heap.size, 0, none⟩)⟩, ⟨1, 27, fun fv fw => fv = .agg #[.bool n, .slice A l c]⟩, ⟨2, 28, fun fv fw => fv = .int .i64 s⟩, ⟨3, 29, fun fv fw => fv = .int .i64 k⟩, ⟨4, 30, fun fv fw => LV fw fw.heap.size fv k⟩, ⟨5, 31, fun fv fw => RN fw fw.heap.size fv (dig (k).natAbs)⟩, ⟨6, 32, fun fv fw => WV fw fw.heap.size fv (q.num * ((k.natAbs : Nat) : Int))⟩, ⟨7, 33, fun fv fw => fv = .pointer (some ⟨w13.heap.size, 2, none⟩)⟩, ⟨8, 34, fun fv fw => fv = .slice A' l' c'⟩, ⟨9, 35, fun fv fw => fv = .agg #[.bool false, .slice A' l' c']⟩, ⟨10, 36, fun fv fw => WV fw fw.heap.size fv y⟩, ⟨11, 8, fun fv fw => ∃ b, fv = .pointer (some ⟨b, 0, none⟩) ∧ CB fw b 93 #[.bool false, .slice none 0 0]⟩] [] [11] 1 (by kernel_rfl) (by kernel_rfl) (by kernel_rfl) (fun _ _ _ _ _ h => h) ?_ ?_ ?_ ?_
  ·refine (all_cons (fun v w1 w2 h hb => h) (all_cons (fun v w1 w2 h hb => h) (all_cons (fun v w1 w2 h hb => h) (all_cons (fun v w1 w2 h hb => h) (all_cons (fun v w1 w2 h hb => h.step hb) (all_cons (fun v w1 w2 h hb => h.step hb) (all_cons (fun v w1 w2 h hb => h.step hb) (all_cons (fun v w1 w2 h hb => h) (all_cons (fun v w1 w2 h hb => h) (all_cons (fun v w1 w2 h hb => h) (all_cons (fun v w1 w2 h hb => h.step hb) (all_cons (fun v w1 w2 h hb => let ⟨b, e, h⟩ := h; ⟨b, e, h.step hb⟩) all_nil))))))))))))
  ·refine (all_cons ?_ (all_cons ?_ (all_cons ?_ (all_cons ?_ (all_cons ?_ (all_cons ?_ (all_cons ?_ (all_cons ?_ (all_cons ?_ (all_cons ?_ (all_cons ?_ (all_cons ?_ all_nil))))))))))))
   ·intro xs wk24 hBk hdep
    have HBk24 := Lib.hid hBk; have zk24 := hBk.size; clear hBk
    clear hdep
    refine wpOp_step (o := _) rfl (fun K hK => ?_)
    simp only [FL]
    go_simp
    refine hK _ _ ⟨.pointer (some ⟨w13.heap.size, 0, none⟩), by kernel_rfl, Below.refl _ _, rfl, nF⟩
   ·intro xs wk25 hBk hdep
    have HBk25 := Lib.hid hBk; have zk25 := hBk.size; clear hBk
    have f0 : (xs 0) = .pointer (some ⟨w13.heap.size, 0, none⟩) := hdep _ (m_ 0 rfl) (by kernel_rfl)
    clear hdep
    refine wpOp_step (o := _) rfl (fun K hK => ?_)
    simp only [FL]
    have Lr_26 := CB.step Lr_18 HBk25.out
    have q27_0 := Lr_26.cell 0 rfl
    have q27_1 := Lr_26.cell 1 rfl
    go_simp
    refine hK _ _ ⟨.agg #[.bool n, .slice A l c], by simp only [FL, f0] <;> kernel_rfl, Below.refl _ _, rfl, nF⟩
   ·intro xs wk28 hBk hdep
    have HBk28 := Lib.hid hBk; have zk28 := hBk.size; clear hBk
    clear hdep
    refine wpOp_step (o := _) rfl (fun K hK => ?_)
    simp only [FL]
    go_simp
    refine hK _ _ ⟨.int .i64 s, by kernel_rfl, Below.refl _ _, rfl, nF⟩
   ·intro xs wk29 hBk hdep
    have HBk29 := Lib.hid hBk; have zk29 := hBk.size; clear hBk
    have f2 : (xs 2) = .int .i64 s := hdep _ (m_ 2 rfl) (by kernel_rfl)
    clear hdep
    refine wpOp_step (o := _) rfl (fun K hK => ?_)
    simp only [FL]
    go_simp
    refine hK _ _ ⟨.int .i64 k, by simp only [FL, f2] <;> kernel_rfl, Below.refl _ _, rfl, nF⟩
   ·intro xs wk30 hBk hdep
    have HBk30 := Lib.hid hBk; have zk30 := hBk.size; clear hBk
    have f3 : (xs 3) = .int .i64 k := hdep _ (m_ 3 rfl) (by kernel_rfl)
    clear hdep
    refine wpOp_step (o := _) rfl (fun K hK => ?_)
    simp only [FL]
    go_simp
    (with_reducible refine (Of_any _ k (by have := HKB.out; omega) (by have := HKB.out; omega)).mono ?_)
    rintro e wc31 ⟨hb31, v31, rfl, hv31⟩
    refine hK _ _ ⟨v31, by simp only [FL, f3] <;> kernel_rfl, hb31, hv31, nF⟩
   ·intro xs wk32 hBk hdep
    have HBk32 := Lib.hid hBk; have zk32 := hBk.size; clear hBk
    have f4 : LV wk32 wk32.heap.size (xs 4) k := hdep _ (m_ 4 rfl) (by kernel_rfl)
    clear hdep
    refine wpOp_step (o := _) rfl (fun K hK => ?_)
    simp only [FL]
    obtain ⟨on4, oA4, ol4, oc4, hx4, hv4⟩ := LV.opened f4; have r4 := (LV.is hv4).2.2; rw [hx4]; clear hv4
    go_simp
    refine hK _ _ ⟨.slice oA4 ol4 oc4, by simp only [FL, hx4] <;> kernel_rfl, Below.refl _ _, r4, nF⟩
   ·intro xs wk33 hBk hdep
    have HBk33 := Lib.hid hBk; have zk33 := hBk.size; clear hBk
    have f1 : (xs 1) = .agg #[.bool n, .slice A l c] := hdep _ (m_ 1 rfl) (by kernel_rfl)
    have f5 : RN wk33 wk33.heap.size (xs 5) (dig (k).natAbs) := hdep _ (m_ 5 rfl) (by kernel_rfl)
    clear hdep
    refine wpOp_step (o := _) rfl (fun K hK => ?_)
    simp only [FL]
    go_simp
    have Hrw_34 := Lib.hid (WV.step HRW.out HBk33.out)
    (with_reducible refine (wtimes_any _ _ _ q.num k.natAbs Hrw_34.out f5 (by have := HL.out; omega) (by have := HL.out; omega)).mono ?_)
    rintro e wc35 ⟨hb35, v35, rfl, hv35⟩
    refine hK _ _ ⟨v35, by simp only [FL, f1] <;> kernel_rfl, hb35, hv35, nF⟩
   ·intro xs wk36 hBk hdep
    have HBk36 := Lib.hid hBk; have zk36 := hBk.size; clear hBk
    clear hdep
    refine wpOp_step (o := _) rfl (fun K hK => ?_)
    simp only [FL]
    go_simp
    refine hK _ _ ⟨.pointer (some ⟨w13.heap.size, 2, none⟩), by kernel_rfl, Below.refl _ _, rfl, nF⟩
   ·intro xs wk37 hBk hdep
    have HBk37 := Lib.hid hBk; have zk37 := hBk.size; clear hBk
    have f7 : (xs 7) = .pointer (some ⟨w13.heap.size, 2, none⟩) := hdep _ (m_ 7 rfl) (by kernel_rfl)
    clear hdep
    refine wpOp_step (o := _) rfl (fun K hK => ?_)
    simp only [FL]
    have Lr_38 := CB.step Lr_18 HBk37.out
    have q39_2 := Lr_38.cell 2 rfl
    go_simp
    refine hK _ _ ⟨.slice A' l' c', by simp only [FL, f7] <;> kernel_rfl, Below.refl _ _, rfl, nF⟩
   ·intro xs wk40 hBk hdep
    have HBk40 := Lib.hid hBk; have zk40 := hBk.size; clear hBk
    have f8 : (xs 8) = .slice A' l' c' := hdep _ (m_ 8 rfl) (by kernel_rfl)
    clear hdep
    refine wpOp_step (o := _) rfl (fun K hK => ?_)
    simp only [FL]
    go_simp
    refine hK _ _ ⟨.agg #[.bool false, .slice A' l' c'], by simp only [FL, f8] <;> kernel_rfl, Below.refl _ _, rfl, nF⟩
   ·intro xs wk41 hBk hdep
    have HBk41 := Lib.hid hBk; have zk41 := hBk.size; clear hBk
    have f6 : WV wk41 wk41.heap.size (xs 6) (q.num * ((k.natAbs : Nat) : Int)) := hdep _ (m_ 6 rfl) (by kernel_rfl)
    have f9 : (xs 9) = .agg #[.bool false, .slice A' l' c'] := hdep _ (m_ 9 rfl) (by kernel_rfl)
    clear hdep
    refine wpOp_step (o := _) rfl (fun K hK => ?_)
    simp only [FL]
    go_simp
    have Hdw_42 := Lib.hid (WV.step HDW.out HBk41.out)
    (with_reducible refine (wplus_any _ _ _ (q.num * ((k.natAbs : Nat) : Int)) (q.den : Int) f6 Hdw_42.out (by have := HL.out; omega) (by rw [Int.natAbs_natCast]; have := HL.out; omega)).mono ?_)
    rintro e wc43 ⟨hb43, v43, rfl, hv43⟩
    refine hK _ _ ⟨v43, by simp only [FL, f9] <;> kernel_rfl, hb43, HWY.out _ _ _ hv43, nF⟩
   ·intro xs wk44 hBk hdep
    have HBk44 := Lib.hid hBk; have zk44 := hBk.size; clear hBk
    clear hdep
    refine wpOp_step (o := _) rfl (fun K hK => ?_)
    simp only [FL]
    go_simp
    refine hK _ _ ⟨.pointer (some ⟨wk44.heap.size, 0, none⟩), by kernel_rfl, (Below.refl _ _).alloc (Nat.le_refl _) _, ⟨_, rfl, CB.new _ _ _⟩, fun _ => ⟨_, rfl, Nat.le_refl _, by simp⟩⟩
  ·exact all_nil
  ·intro xs wf45 hbf hf hn hd
   have f0 : (xs 0) = .pointer (some ⟨w13.heap.size, 0, none⟩) := hf _ (m_ 0 rfl)
   have f1 : (xs 1) = .agg #[.bool n, .slice A l c] := hf _ (m_ 1 rfl)
   have f2 : (xs 2) = .int .i64 s := hf _ (m_ 2 rfl)
   have f3 : (xs 3) = .int .i64 k := hf _ (m_ 3 rfl)
   have f4 : LV wf45 wf45.heap.size (xs 4) k := hf _ (m_ 4 rfl)
   have f5 : RN wf45 wf45.heap.size (xs 5) (dig (k).natAbs) := hf _ (m_ 5 rfl)
   have f6 : WV wf45 wf45.heap.size (xs 6) (q.num * ((k.natAbs : Nat) : Int)) := hf _ (m_ 6 rfl)
   have f7 : (xs 7) = .pointer (some ⟨w13.heap.size, 2, none⟩) := hf _ (m_ 7 rfl)
   have f8 : (xs 8) = .slice A' l' c' := hf _ (m_ 8 rfl)
   have f9 : (xs 9) = .agg #[.bool false, .slice A' l' c'] := hf _ (m_ 9 rfl)
   have f10 : WV wf45 wf45.heap.size (xs 10) y := hf _ (m_ 10 rfl)
   have f11 : ∃ b, (xs 11) = .pointer (some ⟨b, 0, none⟩) ∧ CB wf45 b 93 #[.bool false, .slice none 0 0] := hf _ (m_ 11 rfl)
   have n11 := hn 11 (by decide)
   clear hf hn hd
   simp only [FL]
   have B46 := Lib.hid hbf
   have z46 := B46.out.size
   have HB47 := Lib.hid (HB20.out.trans (B46.out.mono HB20.out.size))
   clear hbf
   generalize xs 0 = x0 at *
   generalize xs 1 = x1 at *
   generalize xs 2 = x2 at *
   generalize xs 3 = x3 at *
   generalize xs 4 = x4 at *
   generalize xs 5 = x5 at *
   generalize xs 6 = x6 at *
   generalize xs 7 = x7 at *
   generalize xs 8 = x8 at *
   generalize xs 9 = x9 at *
   generalize xs 10 = x10 at *
   generalize xs 11 = x11 at *
   obtain rfl := f0
   obtain rfl := f1
   obtain rfl := f2
   obtain rfl := f3
   obtain ⟨n48, Ad48, l48, c48, rfl, hv48⟩ := f4.opened
   have Hko_48 := Lib.hid hv48
   clear f4 hv48
   clear f5
   clear f6
   obtain rfl := f7
   obtain rfl := f8
   obtain rfl := f9
   obtain ⟨on49, oA49, ol49, oc49, rfl, ha49, hb49⟩ := f10
   have Hy_49 := Lib.hid (WV.mk ha49 hb49)
   clear ha49 hb49
   obtain ⟨bn50_n, rfl, Ln51_n⟩ := f11
   have hge_bn50_n := Lib.hid (show w18.heap.size ≤ bn50_n by obtain ⟨b', e, h, -⟩ := n11; injection e with e; injection e with e; injection e with e _ _; omega)
   clear n11
   have hgb_bn50_n := Ln51_n.lt; have hgc_bn50_n := hge_bn50_n.out
   have q52_0 := Ln51_n.cell 0 rfl
   have q52_1 := Ln51_n.cell 1 rfl
   have q52_lt := Ln51_n.lt
   have q53_0 := Ln51_n.frozen 0
   have q53_1 := Ln51_n.frozen 1
   have q53_lt := Ln51_n.lt
   refine Early.next (i := 12) (by kernel_rfl) rfl (fun K hK => ?_)
   go_simp
   refine hK _ _ (fun _ => trivial) ?_
   clear hK K
   (try simp only [Act.put, List.setIfInBounds_toArray, List.set_cons_zero, List.set_cons_succ])
   clear q52_0 q52_1 q52_lt q53_0 q53_1 q53_lt
   refine Early.done (by kernel_rfl) ?_ _
   (try simp only [Exit.then])
   have P2_4_55 := Lib.hid (B16.out.trans (B19.out.mono B16.out.size))
   have P2_5_56 := Lib.hid (P2_4_55.out.trans (B46.out.mono P2_4_55.out.size))
   have La_54 := CB.step La_14 P2_5_56.out
   have Lr_57 := CB.step Lr_18 B46.out
   obtain ⟨w58, hW58⟩ : ∃ w58 : World, w58 = ((wf45.setCell ⟨bn50_n, 0, none⟩ (.bool on49)).setCell ⟨bn50_n, 1, none⟩ (.slice oA49 ol49 oc49)) := ⟨_, rfl⟩
   rw [← hW58]
   have S58 := Lib.hid (show Soft wf45 w58 by rw [hW58]; exact (CB.soft1 (Ln51_n) (by simp [noInt_b, noInt_s]) 0 (.bool on49)).trans (CB.soft1 ((show CB _ (bn50_n) 93 #[.bool on49, .slice none 0 0] from CB.set (Ln51_n) 0 (.bool on49))) (by simp [noInt_b, noInt_s]) 1 (.slice oA49 ol49 oc49)))
   have La_58 : CB w58 (w.heap.size) 26 #[.bool n, .slice A l c, .bool false, .slice A' l' c'] := by rw [hW58]; exact CB.far (p := ⟨bn50_n, 1, none⟩) (CB.far (p := ⟨bn50_n, 0, none⟩) (La_54) (show w.heap.size ≠ bn50_n from by omega) _) (show w.heap.size ≠ bn50_n from by omega) _
   have Lr_58 : CB w58 (w13.heap.size) 95 #[.bool n, .slice A l c, .slice A' l' c'] := by rw [hW58]; exact CB.far (p := ⟨bn50_n, 1, none⟩) (CB.far (p := ⟨bn50_n, 0, none⟩) (Lr_57) (show w13.heap.size ≠ bn50_n from by omega) _) (show w13.heap.size ≠ bn50_n from by omega) _
   have Ln_58 : CB w58 (bn50_n) 93 #[.bool on49, .slice oA49 ol49 oc49] := by rw [hW58]; exact (show CB _ (bn50_n) 93 #[.bool on49, .slice oA49 ol49 oc49] from CB.set ((show CB _ (bn50_n) 93 #[.bool on49, .slice none 0 0] from CB.set (Ln51_n) 0 (.bool on49))) 1 (.slice oA49 ol49 oc49))
   have HBP58 := Lib.hid (show Below w.heap.size w w58 by rw [hW58]; exact below_set1 (below_set1 (HB47.out) (by omega) _ _) (by omega) _ _)
   have zw58 : w58.heap.size = wf45.heap.size := by rw [hW58]; simp [World.setCell]
   clear hW58
   have Hy_59 := Lib.hid (WV.soft Hy_49.out (S58.out))
   have HY1 := Lib.hid (WV.is Hy_59.out)
   have HYR := Lib.hid HY1.out.1
   obtain ⟨bit, hbit⟩ : ∃ b : Bool, b = decide (y % ((q.den * 2 : Nat) : Int) ≠ 0) := ⟨_, rfl⟩; have HBIT := Lib.hid hbit; clear hbit
   have HP2 := Lib.hid (show (dig 2).length ≤ 1000000 by rw [dig2]; decide)
   go_upto_region 8 with (fail)
   refine Flow.run [⟨0, 38, fun fv fw => fv = .agg #[.bool on49, .slice oA49 ol49 oc49]⟩, ⟨1, 39, fun fv fw => fv = .pointer (some ⟨w13.heap.size, 2, none⟩)⟩, ⟨2, 40, fun fv fw => fv = .slice A' l' c'⟩, ⟨3, 41, fun fv fw => RN fw fw.heap.size fv (dig 2)⟩, ⟨4, 42, fun fv fw => RN fw fw.heap.size fv (dig (q.den * 2))⟩, ⟨5, 43, fun fv fw => TV fw fw.heap.size fv y (q.den * 2)⟩, ⟨6, 44, fun fv fw => ∃ u, fv = .tuple #[u, .bool bit] ∧ WV fw fw.heap.size u z⟩, ⟨7, 37, fun fv fw => ∃ u, fv = .tuple #[u, .bool bit] ∧ WV fw fw.heap.size u z⟩, ⟨8, 45, fun fv fw => WV fw fw.heap.size fv z⟩, ⟨10, 9, fun fv fw => ∃ b, fv = .pointer (some ⟨b, 0, none⟩) ∧ CB fw b 93 #[.bool false, .slice none 0 0]⟩] [⟨9, 46, fun fv fw => fv = .bool bit⟩] [10] 2 (by kernel_rfl) (by kernel_rfl) (by kernel_rfl) (fun _ _ _ _ _ h => h) ?_ ?_ ?_ ?_
   ·refine (all_cons (fun v w1 w2 h hb => h) (all_cons (fun v w1 w2 h hb => h) (all_cons (fun v w1 w2 h hb => h) (all_cons (fun v w1 w2 h hb => h.step hb) (all_cons (fun v w1 w2 h hb => h.step hb) (all_cons (fun v w1 w2 h hb => h.step hb) (all_cons (fun v w1 w2 h hb => let ⟨u, e, h⟩ := h; ⟨u, e, h.step hb⟩) (all_cons (fun v w1 w2 h hb => let ⟨u, e, h⟩ := h; ⟨u, e, h.step hb⟩) (all_cons (fun v w1 w2 h hb => h.step hb) (all_cons (fun v w1 w2 h hb => let ⟨b, e, h⟩ := h; ⟨b, e, h.step hb⟩) (all_cons (fun v w1 w2 h hb => h) all_nil)))))))))))
   ·refine (all_cons ?_ (all_cons ?_ (all_cons ?_ (all_cons ?_ (all_cons ?_ (all_cons ?_ (all_cons ?_ (all_cons ?_ (all_cons ?_ (all_cons ?_ all_nil))))))))))
    ·intro xs wk60 hBk hdep
     have HBk60 := Lib.hid hBk; have zk60 := hBk.size; clear hBk
     clear hdep
     refine wpOp_step (o := _) rfl (fun K hK => ?_)
     simp only [FL]
     have Ln_61 := CB.step Ln_58 HBk60.out
     have q62_0 := Ln_61.cell 0 rfl
     have q62_1 := Ln_61.cell 1 rfl
     go_simp
     refine hK _ _ ⟨.agg #[.bool on49, .slice oA49 ol49 oc49], by kernel_rfl, Below.refl _ _, rfl, nF⟩
    ·intro xs wk63 hBk hdep
     have HBk63 := Lib.hid hBk; have zk63 := hBk.size; clear hBk
     clear hdep
     refine wpOp_step (o := _) rfl (fun K hK => ?_)
     simp only [FL]
     go_simp
     refine hK _ _ ⟨.pointer (some ⟨w13.heap.size, 2, none⟩), by kernel_rfl, Below.refl _ _, rfl, nF⟩
    ·intro xs wk64 hBk hdep
     have HBk64 := Lib.hid hBk; have zk64 := hBk.size; clear hBk
     have f1 : (xs 1) = .pointer (some ⟨w13.heap.size, 2, none⟩) := hdep _ (m_ 1 rfl) (by kernel_rfl)
     clear hdep
     refine wpOp_step (o := _) rfl (fun K hK => ?_)
     simp only [FL]
     have Lr_65 := CB.step Lr_58 HBk64.out
     have q66_2 := Lr_65.cell 2 rfl
     go_simp
     refine hK _ _ ⟨.slice A' l' c', by simp only [FL, f1] <;> kernel_rfl, Below.refl _ _, rfl, nF⟩
    ·intro xs wk67 hBk hdep
     have HBk67 := Lib.hid hBk; have zk67 := hBk.size; clear hBk
     clear hdep
     refine wpOp_step (o := _) rfl (fun K hK => ?_)
     simp only [FL]
     go_simp
     refine hK _ _ ⟨.slice (some ⟨wk67.heap.size, 0, none⟩) 1 1, by kernel_rfl, (Below.refl _ _).alloc (Nat.le_refl _) _, (by rw [dig2]; exact RI.one _ 2), nF⟩
    ·intro xs wk68 hBk hdep
     have HBk68 := Lib.hid hBk; have zk68 := hBk.size; clear hBk
     have f2 : (xs 2) = .slice A' l' c' := hdep _ (m_ 2 rfl) (by kernel_rfl)
     have f3 : RN wk68 wk68.heap.size (xs 3) (dig 2) := hdep _ (m_ 3 rfl) (by kernel_rfl)
     clear hdep
     refine wpOp_step (o := _) rfl (fun K hK => ?_)
     simp only [FL]
     go_simp
     have Hrd_69 := Lib.hid (RN.soft HRD.out (((Soft.of B46.out).trans (S58.out)).trans (Soft.of HBk68.out)))
     (with_reducible refine (Times_any _ _ _ q.den 2 Hrd_69.out f3 (by have := HL.out; omega) HP2.out).mono ?_)
     rintro e wc70 ⟨hb70, v70, rfl, hv70⟩
     refine hK _ _ ⟨v70, by simp only [FL, f2] <;> kernel_rfl, hb70, hv70, nF⟩
    ·intro xs wk71 hBk hdep
     have HBk71 := Lib.hid hBk; have zk71 := hBk.size; clear hBk
     have f0 : (xs 0) = .agg #[.bool on49, .slice oA49 ol49 oc49] := hdep _ (m_ 0 rfl) (by kernel_rfl)
     have f4 : RN wk71 wk71.heap.size (xs 4) (dig (q.den * 2)) := hdep _ (m_ 4 rfl) (by kernel_rfl)
     clear hdep
     refine wpOp_step (o := _) rfl (fun K hK => ?_)
     simp only [FL]
     obtain ⟨A4, c4, hx4, -⟩ := RN.cell f4; have r4 := f4; rw [hx4] at r4 ⊢
     have Hy1_72 := Lib.hid (RN.step HYR.out HBk71.out)
     go_simp
     refine hK _ _ ⟨.agg #[.bool on49, .slice oA49 ol49 oc49, .slice A4 (dig (q.den * 2)).length c4], by simp only [FL, f0, hx4] <;> kernel_rfl, Below.refl _ _, TV.mk Hy1_72.out r4 HY1.out.2, nF⟩
    ·intro xs wk73 hBk hdep
     have HBk73 := Lib.hid hBk; have zk73 := hBk.size; clear hBk
     have f5 : TV wk73 wk73.heap.size (xs 5) y (q.den * 2) := hdep _ (m_ 5 rfl) (by kernel_rfl)
     clear hdep
     refine wpOp_step (o := _) rfl (fun K hK => ?_)
     simp only [FL]
     go_simp
     (with_reducible refine (floor_any _ _ y (q.den * 2) f5 HD2.out (by have := HL.out; omega)).mono ?_)
     rintro e wc74 ⟨hb74, v74, rfl, hv74⟩; rw [← HZ.out] at hv74; rw [← HBIT.out]
     refine hK _ _ ⟨.tuple #[v74, .bool bit], by kernel_rfl, hb74, ⟨v74, rfl, hv74⟩, nF⟩
    ·intro xs wk75 hBk hdep
     have HBk75 := Lib.hid hBk; have zk75 := hBk.size; clear hBk
     have f6 : ∃ u, (xs 6) = .tuple #[u, .bool bit] ∧ WV wk75 wk75.heap.size u z := hdep _ (m_ 6 rfl) (by kernel_rfl)
     clear hdep
     refine wpOp_step (o := _) rfl (fun K hK => ?_)
     simp only [FL]
     obtain ⟨u, hu, hl⟩ := f6; rw [hu]
     go_simp
     refine hK _ _ ⟨.tuple #[u, .bool bit], by simp only [FL, hu] <;> kernel_rfl, Below.refl _ _, ⟨u, rfl, hl⟩, nF⟩
    ·intro xs wk76 hBk hdep
     have HBk76 := Lib.hid hBk; have zk76 := hBk.size; clear hBk
     have f7 : ∃ u, (xs 7) = .tuple #[u, .bool bit] ∧ WV wk76 wk76.heap.size u z := hdep _ (m_ 7 rfl) (by kernel_rfl)
     clear hdep
     refine wpOp_step (o := _) rfl (fun K hK => ?_)
     simp only [FL]
     obtain ⟨u, hu, hl⟩ := f7; rw [hu]
     go_simp
     refine hK _ _ ⟨u, by simp only [FL, hu] <;> kernel_rfl, Below.refl _ _, hl, nF⟩
    ·intro xs wk77 hBk hdep
     have HBk77 := Lib.hid hBk; have zk77 := hBk.size; clear hBk
     clear hdep
     refine wpOp_step (o := _) rfl (fun K hK => ?_)
     simp only [FL]
     go_simp
     refine hK _ _ ⟨.pointer (some ⟨wk77.heap.size, 0, none⟩), by kernel_rfl, (Below.refl _ _).alloc (Nat.le_refl _) _, ⟨_, rfl, CB.new _ _ _⟩, fun _ => ⟨_, rfl, Nat.le_refl _, by simp⟩⟩
   ·refine (all_cons ?_ all_nil)
    ·intro xs wk78 hBk hdep
     have HBk78 := Lib.hid hBk; have zk78 := hBk.size; clear hBk
     have f7 : ∃ u, (xs 7) = .tuple #[u, .bool bit] ∧ WV wk78 wk78.heap.size u z := hdep _ (m_ 7 rfl) (by kernel_rfl)
     clear hdep
     obtain ⟨u, hu, -⟩ := f7
     refine ⟨_, .bool bit, rfl, Or.inl ⟨by rfl, fun w => ?_⟩, rfl⟩
     simp only [FL]
     rw [hu]
     go_simp
   ·intro xs wf79 hbf hf hn hd
    have f0 : (xs 0) = .agg #[.bool on49, .slice oA49 ol49 oc49] := hf _ (m_ 0 rfl)
    have f1 : (xs 1) = .pointer (some ⟨w13.heap.size, 2, none⟩) := hf _ (m_ 1 rfl)
    have f2 : (xs 2) = .slice A' l' c' := hf _ (m_ 2 rfl)
    have f3 : RN wf79 wf79.heap.size (xs 3) (dig 2) := hf _ (m_ 3 rfl)
    have f4 : RN wf79 wf79.heap.size (xs 4) (dig (q.den * 2)) := hf _ (m_ 4 rfl)
    have f5 : TV wf79 wf79.heap.size (xs 5) y (q.den * 2) := hf _ (m_ 5 rfl)
    have f6 : ∃ u, (xs 6) = .tuple #[u, .bool bit] ∧ WV wf79 wf79.heap.size u z := hf _ (m_ 6 rfl)
    have f7 : ∃ u, (xs 7) = .tuple #[u, .bool bit] ∧ WV wf79 wf79.heap.size u z := hf _ (m_ 7 rfl)
    have f8 : WV wf79 wf79.heap.size (xs 8) z := hf _ (m_ 8 rfl)
    have f10 : ∃ b, (xs 10) = .pointer (some ⟨b, 0, none⟩) ∧ CB wf79 b 93 #[.bool false, .slice none 0 0] := hf _ (m_ 9 rfl)
    have f9 : (xs 9) = .bool bit := hf _ (m_ 10 rfl)
    have n10 := hn 10 (by decide)
    clear hf hn hd
    simp only [FL]
    have B80 := Lib.hid hbf
    have z80 := B80.out.size
    have HB81 := Lib.hid (HBP58.out.trans (B80.out.mono HBP58.out.size))
    clear hbf
    generalize xs 0 = x0 at *
    generalize xs 1 = x1 at *
    generalize xs 2 = x2 at *
    generalize xs 3 = x3 at *
    generalize xs 4 = x4 at *
    generalize xs 5 = x5 at *
    generalize xs 6 = x6 at *
    generalize xs 7 = x7 at *
    generalize xs 8 = x8 at *
    generalize xs 10 = x10 at *
    generalize xs 9 = x9 at *
    obtain rfl := f0
    obtain rfl := f1
    obtain rfl := f2
    clear f3
    clear f4
    clear f5
    clear f6
    clear f7
    obtain ⟨on82, oA82, ol82, oc82, rfl, ha82, hb82⟩ := f8
    have Hf_82 := Lib.hid (WV.mk ha82 hb82)
    clear ha82 hb82
    obtain ⟨bn83_q, rfl, Ln84_q⟩ := f10
    have hge_bn83_q := Lib.hid (show w58.heap.size ≤ bn83_q by obtain ⟨b', e, h, -⟩ := n10; injection e with e; injection e with e; injection e with e _ _; omega)
    clear n10
    have hgb_bn83_q := Ln84_q.lt; have hgc_bn83_q := hge_bn83_q.out
    obtain rfl := f9
    have q85_0 := Ln84_q.cell 0 rfl
    have q85_1 := Ln84_q.cell 1 rfl
    have q85_lt := Ln84_q.lt
    have q86_0 := Ln84_q.frozen 0
    have q86_1 := Ln84_q.frozen 1
    have q86_lt := Ln84_q.lt
    refine Early.next (i := 11) (by kernel_rfl) rfl (fun K hK => ?_)
    go_simp
    refine hK _ _ (fun _ => trivial) ?_
    clear hK K
    (try simp only [Act.put, List.setIfInBounds_toArray, List.set_cons_zero, List.set_cons_succ])
    clear q85_0 q85_1 q85_lt q86_0 q86_1 q86_lt
    refine Early.next (i := 12) (by kernel_rfl) rfl (fun K hK => ?_)
    go_simp
    refine hK _ _ (fun _ => trivial) ?_
    clear hK K
    (try simp only [Act.put, List.setIfInBounds_toArray, List.set_cons_zero, List.set_cons_succ])
    refine Early.done (by kernel_rfl) ?_ _
    (try simp only [Exit.then])
    have La_87 := CB.step La_58 B80.out
    have Lr_88 := CB.step Lr_58 B80.out
    have Ln_89 := CB.step Ln_58 B80.out
    obtain ⟨w90, hW90⟩ : ∃ w90 : World, w90 = ((wf79.setCell ⟨bn83_q, 0, none⟩ (.bool on82)).setCell ⟨bn83_q, 1, none⟩ (.slice oA82 ol82 oc82)) := ⟨_, rfl⟩
    rw [← hW90]
    have S90 := Lib.hid (show Soft wf79 w90 by rw [hW90]; exact (CB.soft1 (Ln84_q) (by simp [noInt_b, noInt_s]) 0 (.bool on82)).trans (CB.soft1 ((show CB _ (bn83_q) 93 #[.bool on82, .slice none 0 0] from CB.set (Ln84_q) 0 (.bool on82))) (by simp [noInt_b, noInt_s]) 1 (.slice oA82 ol82 oc82)))
    have La_90 : CB w90 (w.heap.size) 26 #[.bool n, .slice A l c, .bool false, .slice A' l' c'] := by rw [hW90]; exact CB.far (p := ⟨bn83_q, 1, none⟩) (CB.far (p := ⟨bn83_q, 0, none⟩) (La_87) (show w.heap.size ≠ bn83_q from by omega) _) (show w.heap.size ≠ bn83_q from by omega) _
    have Lr_90 : CB w90 (w13.heap.size) 95 #[.bool n, .slice A l c, .slice A' l' c'] := by rw [hW90]; exact CB.far (p := ⟨bn83_q, 1, none⟩) (CB.far (p := ⟨bn83_q, 0, none⟩) (Lr_88) (show w13.heap.size ≠ bn83_q from by omega) _) (show w13.heap.size ≠ bn83_q from by omega) _
    have Ln_90 : CB w90 (bn50_n) 93 #[.bool on49, .slice oA49 ol49 oc49] := by rw [hW90]; exact CB.far (p := ⟨bn83_q, 1, none⟩) (CB.far (p := ⟨bn83_q, 0, none⟩) (Ln_89) (show bn50_n ≠ bn83_q from by omega) _) (show bn50_n ≠ bn83_q from by omega) _
    have Lq_90 : CB w90 (bn83_q) 93 #[.bool on82, .slice oA82 ol82 oc82] := by rw [hW90]; exact (show CB _ (bn83_q) 93 #[.bool on82, .slice oA82 ol82 oc82] from CB.set ((show CB _ (bn83_q) 93 #[.bool on82, .slice none 0 0] from CB.set (Ln84_q) 0 (.bool on82))) 1 (.slice oA82 ol82 oc82))
    have HBP90 := Lib.hid (show Below w.heap.size w w90 by rw [hW90]; exact below_set1 (below_set1 (HB81.out) (by omega) _ _) (by omega) _ _)
    have zw90 : w90.heap.size = wf79.heap.size := by rw [hW90]; simp [World.setCell]
    clear hW90
    have q92_0 := Lq_90.cell 0 rfl
    have q92_1 := Lq_90.cell 1 rfl
    have q92_lt := Lq_90.lt
    go_wp2_with fail
    have Hf_93 := Lib.hid (WV.soft Hf_82.out (S90.out))
    refine (number_any _ _ z 4611686018427387904 Hf_93.out (by decide) (by decide) (by have := HL.out; omega) (G.step HBP90.out)).mono ?_
    rintro e w91 ⟨hb91, rfl⟩
    have B94 := Lib.hid hb91
    have z94 := B94.out.size
    have HB95 := Lib.hid (HBP90.out.trans (B94.out.mono HBP90.out.size))
    clear hb91
    clear q92_0 q92_1 q92_lt
    by_cases hfit : z.natAbs ≤ 4611686018427387904
    ·rw [numN_yes (show z.natAbs ≤ (4611686018427387904 : Int).natAbs from hfit)]
     have HTV := Lib.hid (show t = (z, 0) by rw [HTT.out]; exact if_pos hfit); clear hfit
     go_wp2
     go_ret2
     exact ⟨HB95.out, by rw [HTV.out]; rfl⟩
    ·rw [numN_no (show ¬ z.natAbs ≤ (4611686018427387904 : Int).natAbs from hfit)]
     have HTV := Lib.hid (show t = (0, 6) by rw [HTT.out]; exact if_neg hfit); clear hfit
     go_wp2
     go_ret2
     exact ⟨HB95.out, by rw [HTV.out]; rfl⟩
end Go.Proofs.YtioclokmbgmamaaGreatDoor
