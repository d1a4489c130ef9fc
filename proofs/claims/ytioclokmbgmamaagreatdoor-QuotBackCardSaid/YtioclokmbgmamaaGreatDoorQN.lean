/- Layer 04: Text, Parse (written by gen_qn.py). -/
import Derived.Test.YtioclokmbgmamaaGreatDoorQM
import Derived.Test.YtioclokmbgmamaaGreatDoorQP
namespace Go.Proofs.YtioclokmbgmamaaGreatDoor
open Go Go.RowKit Dig
theorem beq_str (s t : ByteArray) : (s.toList == t.toList) = decide (s.data.toList = t.data.toList) := by
 rw [Lib.toList_data, Lib.toList_data]
 by_cases h : s.data.toList = t.data.toList
 ·rw [h]; simp
 ·rw [decide_eq_false h]; exact beq_eq_false_iff_ne.2 h
def MaxL (w : World) : Prop := ∃ m : Int, w.cell? ⟨0, 0, none⟩ = some (.int .i64 m)
theorem MaxL.step {w w' : World} (h : MaxL w) (hb : Below w.heap.size w w') : MaxL w' := by
 obtain ⟨m, hm⟩ := h
 exact ⟨m, (hb.cell (cell_lt hm)).trans hm⟩
theorem Cut_any (w : World) (s : ByteArray) (hs : s.size ≤ 1000000) (M : MaxL w) :
  Calls Tryz.prog 86 #[.string s, .string ⟨#[47]⟩] w fun e w' => Below w.heap.size w w' ∧ ∃ (a b : ByteArray) (k : Bool), e = .returned (.tuple #[.string a, .string b, .bool k]) ∧ (a.data.toList, b.data.toList, k) = Lib.cut s.data.toList [47] := by
 obtain ⟨m, hm⟩ := M
 refine (Tryz.strings_Cut s ⟨#[47]⟩ m w (by omega) hm).mono ?_
 rintro e w' ⟨rfl, n, rfl⟩
 exact ⟨below_drewN (Below.refl _ _) n, _, _, _, rfl, by simp⟩
theorem cut_sizes {s a b : List UInt8} {k : Bool} (h : (a, b, k) = Lib.cut s [47]) : a.length ≤ s.length ∧ b.length ≤ s.length := by
 rcases first47 s with hs | ⟨x, y, hx, rfl⟩
 ·rw [cut_none hs] at h; injection h with h1 h2; injection h2 with h2 h3
  rw [h1, h2]; simp
 ·rw [cut_some hx] at h; injection h with h1 h2; injection h2 with h2 h3
  rw [h1, h2]; simp; omega
theorem QV.of {w : World} {B : Nat} {n m : Bool} {A A' : Option Addr} {l c l' c' : Nat} {x : Int} {d : Nat} (h : LV w B (.agg #[.bool n, .slice A l c]) x) (k : LV w B (.agg #[.bool m, .slice A' l' c']) (d : Int)) (h0 : d ≠ 0) (h1 : Nat.gcd x.natAbs d = 1) :
  QV w B (.agg #[.bool n, .slice A l c, .bool m, .slice A' l' c']) (mkRat x d) := by
 obtain ⟨e1, e2⟩ := mkRat_low (x := x) (y := d) (Nat.pos_of_ne_zero h0) h1
 obtain ⟨a1, -, a3⟩ := h.is
 obtain ⟨b1, -, b3⟩ := k.is
 rw [decide_eq_false (by omega)] at b1
 subst b1
 rw [Int.natAbs_natCast] at b3
 exact ⟨n, A, l, c, A', l', c', rfl, by rw [e1]; exact a3, by rw [e2]; exact b3, by rw [e1]; exact a1⟩
theorem QR.of {w : World} {B : Nat} {n m : Bool} {A A' : Option Addr} {l c l' c' : Nat} {x y : Int} (h : LV w B (.agg #[.bool n, .slice A l c]) x) (k : LV w B (.agg #[.bool m, .slice A' l' c']) y) :
  QR w B (.agg #[.bool n, .slice A l c, .bool m, .slice A' l' c']) (decide (x < 0)) (ni (dig x.natAbs)) (decide (y < 0)) (ni (dig y.natAbs)) := by
 obtain ⟨a1, -, a3⟩ := h.is
 obtain ⟨b1, -, b3⟩ := k.is
 subst a1; subst b1
 exact QR.mk a3 b3
theorem qOf_pair {x y : Int} (hx : (dig x.natAbs).length ≤ 600) (hy : (dig y.natAbs).length ≤ 600) : qOf (decide (x < 0)) (ni (dig x.natAbs)) (decide (y < 0)) (ni (dig y.natAbs)) = if 0 < y ∧ Nat.gcd x.natAbs y.natAbs = 1 then some (mkRat x y.natAbs) else none :=
 qOf_both (numOf_dig hx) (numOf_dig hy)
def RetT (o : Option Rat) (e : Ending) : Prop :=
 match o with
 | some q => ∃ t : ByteArray, e = .returned (.tuple #[.string t, .int .i64 0]) ∧ t.data.toList = textQ q
 | none => e = .returned (.tuple #[.string ⟨#[]⟩, .int .i64 40])
set_option maxRecDepth 100000 in
set_option maxHeartbeats 4000000 in
theorem QText_good (w : World) (va : Value) (q : Rat) (ha : QV w w.heap.size va q) (lq : QL 600 600 q) (G : Glob w) :
  Calls Tryz.prog 29 #[va] w fun e w' => Below w.heap.size w w' ∧ RetT (some q) e := by
 obtain ⟨n, A, l, c, m, A', l', c', rfl⟩ := QO.cells (show QO w w.heap.size va (some q) from ha)
 have HA := Lib.hid ha; have HLQ := Lib.hid lq; clear ha lq
 obtain ⟨w0, hw0⟩ : ∃ w0 : World, w0 = (w.alloc (.cells #[.bool n, .slice A l c, .bool m, .slice A' l' c'] 26)) := ⟨_, rfl⟩
 have B0 := Lib.hid (show Below w.heap.size w w0 by rw [hw0]; (repeat' (first | exact Below.refl _ _ | refine Below.drew ?_ | refine Below.alloc ?_ (by first | exact Nat.le_refl _ | (simp; done) | (simp; omega)) _)))
 have z0 : w.heap.size + 1 ≤ w0.heap.size := by rw [hw0]; simp
 have La : CB w0 (w.heap.size) 26 #[.bool n, .slice A l c, .bool m, .slice A' l' c'] := by rw [hw0]; have h := CB.new w 26 #[.bool n, .slice A l c, .bool m, .slice A' l' c']; simpa using h
 replace HA := Lib.hid (QV.step HA.out B0.out)
 go_enter Tryz.func29, Tryz.ntmps29
 go_upto_region 1 with (fail)
 rw [← hw0]; clear hw0
 have q2_0 := La.cell 0 rfl
 have q2_1 := La.cell 1 rfl
 have q2_2 := La.cell 2 rfl
 have q2_3 := La.cell 3 rfl
 have q2_lt := La.lt
 go_wp2_with fail
 refine (QCheck_good HA.out HLQ.out).mono ?_
 rintro e w1 ⟨hb1, rfl⟩
 have B3 := Lib.hid hb1
 have z3 := B3.out.size
 have HB4 := Lib.hid (B0.out.trans (B3.out.mono B0.out.size))
 clear hb1
 clear q2_0 q2_1 q2_2 q2_3 q2_lt
 have La_6 := CB.step La B3.out
 have q7_0 := La_6.cell 0 rfl
 have q7_1 := La_6.cell 1 rfl
 have q7_2 := La_6.cell 2 rfl
 have q7_3 := La_6.cell 3 rfl
 have q7_lt := La_6.lt
 go_wp2_with fail
 have Ha_8 := Lib.hid (QV.step HA.out B3.out)
 refine (Text_num (QV.fst Ha_8.out) HLQ.out.1 (G.step HB4.out)).mono ?_
 rintro e w5 ⟨hb5, rfl⟩
 have B9 := Lib.hid hb5
 have z9 := B9.out.size
 have HB10 := Lib.hid (HB4.out.trans (B9.out.mono HB4.out.size))
 clear hb5
 clear q7_0 q7_1 q7_2 q7_3 q7_lt
 obtain ⟨s, hs⟩ : ∃ s : ByteArray, s = ⟨(Lib.itoa q.num).toArray⟩ := ⟨_, rfl⟩; rw [← hs]
 have Hs := Lib.hid (show s.data.toList = Lib.itoa q.num by rw [hs]); have zs : s.size ≤ 5401 := by rw [hs, Lib.size_eq]; exact itoa_len HLQ.out.1
 clear hs
 have La_12 := CB.step La_6 B9.out
 have q13_0 := La_12.cell 0 rfl
 have q13_1 := La_12.cell 1 rfl
 have q13_2 := La_12.cell 2 rfl
 have q13_3 := La_12.cell 3 rfl
 have q13_lt := La_12.lt
 go_wp2_with fail
 have Ha_14 := Lib.hid (QV.step Ha_8.out B9.out)
 refine (Text_num (QV.snd Ha_14.out) (by rw [Fit, Int.natAbs_natCast]; exact HLQ.out.2) (G.step HB10.out)).mono ?_
 rintro e w11 ⟨hb11, rfl⟩
 have B15 := Lib.hid hb11
 have z15 := B15.out.size
 have HB16 := Lib.hid (HB10.out.trans (B15.out.mono HB10.out.size))
 clear hb11
 clear q13_0 q13_1 q13_2 q13_3 q13_lt
 obtain ⟨t, ht⟩ : ∃ s : ByteArray, s = ⟨(Lib.itoa (q.den : Int)).toArray⟩ := ⟨_, rfl⟩; rw [← ht]
 have Ht := Lib.hid (show t.data.toList = Lib.itoa (q.den : Int) by rw [ht]); have zt : t.size ≤ 5401 := by rw [ht, Lib.size_eq]; exact itoa_len (by rw [Int.natAbs_natCast]; exact HLQ.out.2)
 clear ht
 have hcat1 : ¬ 9223372036854775807 < s.size + 1 := by omega
 have hcat2 : ¬ 9223372036854775807 < s.size + 1 + t.size := by omega
 go_wp2_with fail
 refine (Tryz.strings_TrimSuffix _ ⟨#[47, 49]⟩ _ ?_).mono ?_
 ·simp only [ByteArray.size_append]; show s.size + 1 + t.size ≤ _; omega
 rintro e w9 ⟨rfl, rfl⟩
 obtain ⟨u, hu⟩ : ∃ u : ByteArray, u = ⟨(Lib.trimSuffix (s ++ ⟨#[47]⟩ ++ t).data.toList (⟨#[47, 49]⟩ : ByteArray).data.toList).toArray⟩ := ⟨_, rfl⟩; rw [← hu]
 have HU := Lib.hid (show u.data.toList = textQ q by rw [hu, ByteArray.data_append, ByteArray.data_append, Array.toList_append, Array.toList_append, Hs.out, Ht.out]; show Lib.trimSuffix (Lib.itoa q.num ++ [47] ++ Lib.itoa q.den) [47, 49] = _; rw [List.append_assoc]; exact textQ_trim q); clear hu
 go_wp2
 go_ret2
 exact ⟨HB16.out, _, rfl, HU.out⟩
set_option maxRecDepth 100000 in
set_option maxHeartbeats 4000000 in
theorem QParse_any (w : World) (s : ByteArray) (hs : s.size ≤ 1000000) (M : MaxL w) :
  Calls Tryz.prog 31 #[.string s] w fun e w' => Below w.heap.size w w' ∧ RetQ w' (parseQ s.data.toList) e := by
 obtain ⟨r, hr⟩ : ∃ r, r = parseQ s.data.toList := ⟨_, rfl⟩; rw [← hr]; have HR := Lib.hid hr; clear hr
 have HSZ := Lib.hid hs; clear hs
 obtain ⟨w0, hw0⟩ : ∃ w0 : World, w0 = (w.alloc (.cells #[.bool false, .slice none 0 0, .bool false, .slice none 0 0] 26)) := ⟨_, rfl⟩
 have B0 := Lib.hid (show Below w.heap.size w w0 by rw [hw0]; (repeat' (first | exact Below.refl _ _ | refine Below.drew ?_ | refine Below.alloc ?_ (by first | exact Nat.le_refl _ | (simp; done) | (simp; omega)) _)))
 have z0 : w.heap.size + 1 ≤ w0.heap.size := by rw [hw0]; simp
 have Lr2 : CB w0 (w.heap.size) 26 #[.bool false, .slice none 0 0, .bool false, .slice none 0 0] := by rw [hw0]; have h := CB.new w 26 #[.bool false, .slice none 0 0, .bool false, .slice none 0 0]; simpa using h
 go_enter Tryz.func31, Tryz.ntmps31
 go_upto_region 1 with (fail)
 rw [← hw0]; clear hw0
 go_wp2_with fail
 refine (Cut_any _ s HSZ.out (M.step B0.out)).mono ?_
 rintro e w1 ⟨hb1, sa, sb, k, rfl, hcut⟩
 have B2 := Lib.hid hb1
 have z2 := B2.out.size
 have HB3 := Lib.hid (B0.out.trans (B2.out.mono B0.out.size))
 clear hb1
 have hcz := cut_sizes hcut; have HZA := Lib.hid (show sa.size ≤ 1000000 by rw [Lib.size_eq]; have h1 := HSZ.out; rw [Lib.size_eq] at h1; omega); have HZB := Lib.hid (show sb.size ≤ 1000000 by rw [Lib.size_eq]; have h1 := HSZ.out; rw [Lib.size_eq] at h1; omega); clear hcz
 have HRR := Lib.hid (show r = if (parseZ sa.data.toList).2 ≠ 0 then (none, (parseZ sa.data.toList).2) else if k = false then (some (mkRat (parseZ sa.data.toList).1 1), 0) else if (parseZ sb.data.toList).2 ≠ 0 then (none, (parseZ sb.data.toList).2) else if 2 ≤ (parseZ sb.data.toList).1 ∧ Nat.gcd (parseZ sa.data.toList).1.natAbs (parseZ sb.data.toList).1.natAbs = 1 then (some (mkRat (parseZ sa.data.toList).1 (parseZ sb.data.toList).1.natAbs), 0) else (none, 5) by
  rw [HR.out, parseQ, ← hcut])
 clear hcut HR
 obtain ⟨p, hp⟩ : ∃ p, p = parseZ sa.data.toList := ⟨_, rfl⟩; have HP := Lib.hid hp
 have HPC := Lib.hid (parseZ_cases sa.data.toList); rw [← hp] at HPC HRR; clear hp
 go_wp2_with fail
 refine ((show Calls Tryz.prog _ _ _ _ from HP.out ▸ Parse_any _ sa HZA.out)).mono ?_
 rintro e w4 ⟨hb4, v, rfl, hv⟩
 have B5 := Lib.hid hb4
 have z5 := B5.out.size
 have HB6 := Lib.hid (HB3.out.trans (B5.out.mono HB3.out.size))
 clear hb4
 obtain ⟨x, e1⟩ := p; replace hv : LV w4 w4.heap.size v x := hv
 dsimp only at HRR ⊢
 obtain ⟨n7, Ad7, l7, c7, rfl, hv7⟩ := hv.opened
 have Hn_7 := Lib.hid hv7
 clear hv hv7
 go_upto_region 3 with (fail)
 obtain ⟨w8, hW8⟩ : ∃ w8 : World, w8 = (w4.alloc (.cells #[.bool n7, .slice Ad7 l7 c7] 24)) := ⟨_, rfl⟩; rw [← hW8]
 have hb8 : Below w4.heap.size w4 w8 := by rw [hW8]; (repeat' (first | exact Below.refl _ _ | refine Below.drew ?_ | refine Below.alloc ?_ (by first | exact Nat.le_refl _ | (simp; done) | (simp; omega)) _))
 have Ln_8 : CB w8 (w4.heap.size) 24 #[.bool n7, .slice Ad7 l7 c7] := by rw [hW8]; have h := CB.new w4 24 #[.bool n7, .slice Ad7 l7 c7]; simpa using h
 have za8 : w4.heap.size + 1 ≤ w8.heap.size := by rw [hW8]; simp
 have B9 := Lib.hid hb8
 have z9 := B9.out.size
 have HB10 := Lib.hid (HB6.out.trans (B9.out.mono HB6.out.size))
 clear hb8 hW8
 by_cases he1 : e1 = 0
 ·subst he1
  cases k with
  | false =>
   have HV := Lib.hid (show r = (some (mkRat x 1), 0) by rw [HRR.out]; simp)
   go_upto_region 4 with (fail)
   refine Flow.run [⟨0, 27, fun fv fw => fv = .agg #[.bool n7, .slice Ad7 l7 c7]⟩, ⟨1, 28, fun fv fw => LV fw fw.heap.size fv 1⟩, ⟨2, 29, fun fv fw => QV fw fw.heap.size fv (mkRat x 1)⟩, ⟨3, 30, fun fv fw => fv = .int .i64 0⟩, ⟨4, 31, fun fv fw => ∃ u, fv = .tuple #[u, .int .i64 0] ∧ QO fw fw.heap.size u (some (mkRat x 1))⟩, ⟨5, 32, fun fv fw => QO fw fw.heap.size fv (some (mkRat x 1))⟩, ⟨6, 33, fun fv fw => fv = .int .i64 0⟩] [] [] 2 (by kernel_rfl) (by kernel_rfl) (by kernel_rfl) (fun _ _ _ _ _ h => h) ?_ ?_ ?_ ?_
   ·refine (all_cons (fun v w1 w2 h hb => h) (all_cons (fun v w1 w2 h hb => h.step hb) (all_cons (fun v w1 w2 h hb => h.step hb) (all_cons (fun v w1 w2 h hb => h) (all_cons (fun v w1 w2 h hb => let ⟨u, e, h⟩ := h; ⟨u, e, QO.step (o := (some (mkRat x 1))) h hb⟩) (all_cons (fun v w1 w2 h hb => QO.step (o := (some (mkRat x 1))) h hb) (all_cons (fun v w1 w2 h hb => h) all_nil)))))))
   ·refine (all_cons ?_ (all_cons ?_ (all_cons ?_ (all_cons ?_ (all_cons ?_ (all_cons ?_ (all_cons ?_ all_nil)))))))
    ·intro xs wk11 hBk hdep
     have HBk11 := Lib.hid hBk; have zk11 := hBk.size; clear hBk
     clear hdep
     refine wpOp_step (o := _) rfl (fun K hK => ?_)
     simp only [FL]
     have Ln_12 := CB.step Ln_8 HBk11.out
     have q13_0 := Ln_12.cell 0 rfl
     have q13_1 := Ln_12.cell 1 rfl
     go_simp
     refine hK _ _ ⟨.agg #[.bool n7, .slice Ad7 l7 c7], by kernel_rfl, Below.refl _ _, rfl, nF⟩
    ·intro xs wk14 hBk hdep
     have HBk14 := Lib.hid hBk; have zk14 := hBk.size; clear hBk
     clear hdep
     refine wpOp_step (o := _) rfl (fun K hK => ?_)
     simp only [FL]
     go_simp
     (with_reducible refine (Of_any _ 1 (by decide) (by decide)).mono ?_)
     rintro e wc15 ⟨hb15, v15, rfl, hv15⟩
     refine hK _ _ ⟨v15, by kernel_rfl, hb15, hv15, nF⟩
    ·intro xs wk16 hBk hdep
     have HBk16 := Lib.hid hBk; have zk16 := hBk.size; clear hBk
     have f0 : (xs 0) = .agg #[.bool n7, .slice Ad7 l7 c7] := hdep _ (m_ 0 rfl) (by kernel_rfl)
     have f1 : LV wk16 wk16.heap.size (xs 1) 1 := hdep _ (m_ 1 rfl) (by kernel_rfl)
     clear hdep
     refine wpOp_step (o := _) rfl (fun K hK => ?_)
     simp only [FL]
     obtain ⟨on1, oA1, ol1, oc1, hx1, hv1⟩ := LV.opened f1; rw [hx1]
     have P3_5_17 := Lib.hid (B9.out.trans (HBk16.out.mono B9.out.size))
     have Hn_18 := Lib.hid (LV.step Hn_7.out P3_5_17.out)
     have HVV := Lib.hid hv1; clear hv1
     go_simp
     refine hK _ _ ⟨.agg #[.bool n7, .slice Ad7 l7 c7, .bool on1, .slice oA1 ol1 oc1], by simp only [FL, f0, hx1] <;> kernel_rfl, Below.refl _ _, QV.of (d := 1) Hn_18.out HVV.out (by decide) (Nat.gcd_one_right _), nF⟩
    ·intro xs wk19 hBk hdep
     have HBk19 := Lib.hid hBk; have zk19 := hBk.size; clear hBk
     clear hdep
     refine wpOp_step (o := _) rfl (fun K hK => ?_)
     simp only [FL]
     go_simp
     refine hK _ _ ⟨.int .i64 0, by kernel_rfl, Below.refl _ _, rfl, nF⟩
    ·intro xs wk20 hBk hdep
     have HBk20 := Lib.hid hBk; have zk20 := hBk.size; clear hBk
     have f2 : QV wk20 wk20.heap.size (xs 2) (mkRat x 1) := hdep _ (m_ 2 rfl) (by kernel_rfl)
     have f3 : (xs 3) = .int .i64 0 := hdep _ (m_ 3 rfl) (by kernel_rfl)
     clear hdep
     refine wpOp_step (o := _) rfl (fun K hK => ?_)
     simp only [FL]
     obtain ⟨qn, qA, ql, qc, qB, qm, qd, hu, ra, rb, rc⟩ := f2; rw [hu]; have RC := Lib.hid (And.intro ra (And.intro rb rc)); clear ra rb rc
     go_simp
     (with_reducible refine (madeQ_yes _ qn false qA qB ql qc qm qd).mono ?_)
     rintro e wc21 ⟨hb21, rfl⟩
     refine hK _ _ ⟨.tuple #[.agg #[.bool qn, .slice qA ql qc, .bool false, .slice qB qm qd], .int .i64 0], by simp only [FL, f3, hu] <;> kernel_rfl, hb21, ⟨_, rfl, QV.step ⟨_, _, _, _, _, _, _, rfl, RC.out.1, RC.out.2.1, RC.out.2.2⟩ hb21⟩, nF⟩
    ·intro xs wk22 hBk hdep
     have HBk22 := Lib.hid hBk; have zk22 := hBk.size; clear hBk
     have f4 : ∃ u, (xs 4) = .tuple #[u, .int .i64 0] ∧ QO wk22 wk22.heap.size u (some (mkRat x 1)) := hdep _ (m_ 4 rfl) (by kernel_rfl)
     clear hdep
     refine wpOp_step (o := _) rfl (fun K hK => ?_)
     simp only [FL]
     obtain ⟨u, hu, hl⟩ := f4; rw [hu]
     go_simp
     refine hK _ _ ⟨u, by simp only [FL, hu] <;> kernel_rfl, Below.refl _ _, hl, nF⟩
    ·intro xs wk23 hBk hdep
     have HBk23 := Lib.hid hBk; have zk23 := hBk.size; clear hBk
     have f4 : ∃ u, (xs 4) = .tuple #[u, .int .i64 0] ∧ QO wk23 wk23.heap.size u (some (mkRat x 1)) := hdep _ (m_ 4 rfl) (by kernel_rfl)
     clear hdep
     refine wpOp_step (o := _) rfl (fun K hK => ?_)
     simp only [FL]
     obtain ⟨u, hu, -⟩ := f4; rw [hu]
     go_simp
     refine hK _ _ ⟨.int .i64 0, by simp only [FL, hu] <;> kernel_rfl, Below.refl _ _, rfl, nF⟩
   ·exact all_nil
   ·intro xs wf24 hbf hf hn hd
    have f0 : (xs 0) = .agg #[.bool n7, .slice Ad7 l7 c7] := hf _ (m_ 0 rfl)
    have f1 : LV wf24 wf24.heap.size (xs 1) 1 := hf _ (m_ 1 rfl)
    have f2 : QV wf24 wf24.heap.size (xs 2) (mkRat x 1) := hf _ (m_ 2 rfl)
    have f3 : (xs 3) = .int .i64 0 := hf _ (m_ 3 rfl)
    have f4 : ∃ u, (xs 4) = .tuple #[u, .int .i64 0] ∧ QO wf24 wf24.heap.size u (some (mkRat x 1)) := hf _ (m_ 4 rfl)
    have f5 : QO wf24 wf24.heap.size (xs 5) (some (mkRat x 1)) := hf _ (m_ 5 rfl)
    have f6 : (xs 6) = .int .i64 0 := hf _ (m_ 6 rfl)
    clear hf hn hd
    simp only [FL]
    have B25 := Lib.hid hbf
    have z25 := B25.out.size
    have HB26 := Lib.hid (HB10.out.trans (B25.out.mono HB10.out.size))
    clear hbf
    generalize xs 0 = x0 at *
    generalize xs 1 = x1 at *
    generalize xs 2 = x2 at *
    generalize xs 3 = x3 at *
    generalize xs 4 = x4 at *
    generalize xs 5 = x5 at *
    generalize xs 6 = x6 at *
    obtain rfl := f0
    clear f1
    clear f2
    obtain rfl := f3
    clear f4
    have hg27 := f5; obtain ⟨on27, oA27, ol27, oc27, oe27, oB27, om_27, od27, rfl⟩ := QO.cells hg27; have Hres_27 := Lib.hid hg27; clear hg27
    obtain rfl := f6
    have P1_3_29 := Lib.hid (B2.out.trans (B5.out.mono B2.out.size))
    have P1_4_30 := Lib.hid (P1_3_29.out.trans (B9.out.mono P1_3_29.out.size))
    have P1_5_31 := Lib.hid (P1_4_30.out.trans (B25.out.mono P1_4_30.out.size))
    have Lr2_28 := CB.step Lr2 P1_5_31.out
    have q32_0 := Lr2_28.cell 0 rfl
    have q32_1 := Lr2_28.cell 1 rfl
    have q32_2 := Lr2_28.cell 2 rfl
    have q32_3 := Lr2_28.cell 3 rfl
    have q32_lt := Lr2_28.lt
    have q33_0 := Lr2_28.frozen 0
    have q33_1 := Lr2_28.frozen 1
    have q33_2 := Lr2_28.frozen 2
    have q33_3 := Lr2_28.frozen 3
    have q33_lt := Lr2_28.lt
    refine Early.next (i := 7) (by kernel_rfl) rfl (fun K hK => ?_)
    go_simp
    refine hK _ _ (fun _ => trivial) ?_
    clear hK K
    (try simp only [Act.put, List.setIfInBounds_toArray, List.set_cons_zero, List.set_cons_succ])
    clear q32_0 q32_1 q32_2 q32_3 q32_lt q33_0 q33_1 q33_2 q33_3 q33_lt
    refine Early.next (i := 8) (by kernel_rfl) rfl (fun K hK => ?_)
    go_simp
    refine hK _ _ (fun _ => trivial) ?_
    clear hK K
    (try simp only [Act.put, List.setIfInBounds_toArray, List.set_cons_zero, List.set_cons_succ])
    refine Early.done (by kernel_rfl) ?_ _
    (try simp only [Exit.then])
    go_wp2
    exact QB.fin rfl Lr2_28 (by simp [noInt_b, noInt_s]) HB26.out (by omega) (by rw [HV.out]; exact Hres_27.out) rfl (by rw [HV.out]; rfl)
  | true =>
   obtain ⟨p, hp⟩ : ∃ p, p = parseZ sb.data.toList := ⟨_, rfl⟩; have HP2 := Lib.hid hp
   have HPD := Lib.hid (parseZ_cases sb.data.toList); rw [← hp] at HPD HRR; clear hp
   have q35_0 := Ln_8.cell 0 rfl
   have q35_1 := Ln_8.cell 1 rfl
   have q35_lt := Ln_8.lt
   go_wp2_with fail
   refine ((show Calls Tryz.prog _ _ _ _ from HP2.out ▸ Parse_any _ sb HZB.out)).mono ?_
   rintro e w34 ⟨hb34, v, rfl, hv⟩
   have B36 := Lib.hid hb34
   have z36 := B36.out.size
   have HB37 := Lib.hid (HB10.out.trans (B36.out.mono HB10.out.size))
   clear hb34
   clear q35_0 q35_1 q35_lt
   obtain ⟨y, e2⟩ := p; replace hv : LV w34 w34.heap.size v y := hv
   dsimp only at HRR ⊢
   replace HRR := Lib.hid (show r = if e2 ≠ 0 then (none, e2) else if 2 ≤ y ∧ Nat.gcd x.natAbs y.natAbs = 1 then (some (mkRat x y.natAbs), 0) else (none, 5) by rw [HRR.out]; simp)
   obtain ⟨n38, Ad38, l38, c38, rfl, hv38⟩ := hv.opened
   have Hd_38 := Lib.hid hv38
   clear hv hv38
   go_upto_region 6 with (fail)
   obtain ⟨w39, hW39⟩ : ∃ w39 : World, w39 = (w34.alloc (.cells #[.bool n38, .slice Ad38 l38 c38] 24)) := ⟨_, rfl⟩; rw [← hW39]
   have hb39 : Below w34.heap.size w34 w39 := by rw [hW39]; (repeat' (first | exact Below.refl _ _ | refine Below.drew ?_ | refine Below.alloc ?_ (by first | exact Nat.le_refl _ | (simp; done) | (simp; omega)) _))
   have Ld_39 : CB w39 (w34.heap.size) 24 #[.bool n38, .slice Ad38 l38 c38] := by rw [hW39]; have h := CB.new w34 24 #[.bool n38, .slice Ad38 l38 c38]; simpa using h
   have za39 : w34.heap.size + 1 ≤ w39.heap.size := by rw [hW39]; simp
   have B40 := Lib.hid hb39
   have z40 := B40.out.size
   have HB41 := Lib.hid (HB37.out.trans (B40.out.mono HB37.out.size))
   clear hb39 hW39
   by_cases he2 : e2 = 0
   ·subst he2
    obtain ⟨hxl, hyl, hyt⟩ : (dig x.natAbs).length ≤ 600 ∧ (dig y.natAbs).length ≤ 600 ∧ Lib.itoa y = sb.data.toList := by
     rcases HPC.out with h | ⟨h, -⟩ | ⟨z, h, -, h2⟩
     ·injection h with _ h; cases h
     ·injection h with _ h; cases h
     ·injection h with h _; subst h
      rcases HPD.out with h | ⟨h, -⟩ | ⟨z, h, h3, h4⟩
      ·injection h with _ h; cases h
      ·injection h with _ h; cases h
      ·injection h with h _; subst h; exact ⟨h2, h4, h3⟩
    have HXL := Lib.hid hxl; have HYL := Lib.hid hyl; have HYT := Lib.hid hyt; clear hxl hyl hyt
    have P3_5_42 := Lib.hid (B9.out.trans (B36.out.mono B9.out.size))
    have P3_6_43 := Lib.hid (P3_5_42.out.trans (B40.out.mono P3_5_42.out.size))
    have Hn_44 := Lib.hid (LV.step Hn_7.out P3_6_43.out)
    have Hd_45 := Lib.hid (LV.step Hd_38.out B40.out)
    have HQR := Lib.hid (QR.of Hn_44.out Hd_45.out)
    by_cases hq : 0 < y ∧ Nat.gcd x.natAbs y.natAbs = 1
    ·have HQ := Lib.hid hq; have HQO := Lib.hid (show qOf _ _ _ _ = some (mkRat x y.natAbs) from (qOf_pair HXL.out HYL.out).trans (if_pos hq)); clear hq
     have P4_6_48 := Lib.hid (B36.out.trans (B40.out.mono B36.out.size))
     have Ln_47 := CB.step Ln_8 P4_6_48.out
     have q49_0 := Ln_47.cell 0 rfl
     have q49_1 := Ln_47.cell 1 rfl
     have q49_lt := Ln_47.lt
     have q50_0 := Ld_39.cell 0 rfl
     have q50_1 := Ld_39.cell 1 rfl
     have q50_lt := Ld_39.lt
     go_wp2_with fail
     refine ((show Calls Tryz.prog _ _ _ _ from (chkQ_some HQO.out) ▸ QCheck_any _ _ _ _ _ _ HQR.out)).mono ?_
     rintro e w46 ⟨hb46, rfl⟩
     have B51 := Lib.hid hb46
     have z51 := B51.out.size
     have HB52 := Lib.hid (HB41.out.trans (B51.out.mono HB41.out.size))
     clear hb46
     clear q49_0 q49_1 q49_lt q50_0 q50_1 q50_lt
     by_cases hy1 : y = 1
     ·have hone : (sb.toList == [49]) = true := by rw [Lib.toList_data, ← HYT.out, hy1, itoa_one]; rfl
      have HV := Lib.hid (show r = (none, 5) by rw [HRR.out, hy1]; simp)
      clear hy1
      have Ln_54 := CB.step Ln_47 B51.out
      have q55_0 := Ln_54.cell 0 rfl
      have q55_1 := Ln_54.cell 1 rfl
      have q55_lt := Ln_54.lt
      have Ld_56 := CB.step Ld_39 B51.out
      have q57_0 := Ld_56.cell 0 rfl
      have q57_1 := Ld_56.cell 1 rfl
      have q57_lt := Ld_56.lt
      go_wp2_with fail
      refine (madeQ_no _ n7 n38 Ad7 Ad38 l7 c7 l38 c38 5 (by decide)).mono ?_
      rintro e w53 ⟨hb53, rfl⟩
      have B58 := Lib.hid hb53
      have z58 := B58.out.size
      have HB59 := Lib.hid (HB52.out.trans (B58.out.mono HB52.out.size))
      clear hb53
      clear q55_0 q55_1 q55_lt q57_0 q57_1 q57_lt
      have P1_3_61 := Lib.hid (B2.out.trans (B5.out.mono B2.out.size))
      have P1_4_62 := Lib.hid (P1_3_61.out.trans (B9.out.mono P1_3_61.out.size))
      have P1_5_63 := Lib.hid (P1_4_62.out.trans (B36.out.mono P1_4_62.out.size))
      have P1_6_64 := Lib.hid (P1_5_63.out.trans (B40.out.mono P1_5_63.out.size))
      have P1_7_65 := Lib.hid (P1_6_64.out.trans (B51.out.mono P1_6_64.out.size))
      have P1_8_66 := Lib.hid (P1_7_65.out.trans (B58.out.mono P1_7_65.out.size))
      have Lr2_60 := CB.step Lr2 P1_8_66.out
      have q67_0 := Lr2_60.cell 0 rfl
      have q67_1 := Lr2_60.cell 1 rfl
      have q67_2 := Lr2_60.cell 2 rfl
      have q67_3 := Lr2_60.cell 3 rfl
      have q67_lt := Lr2_60.lt
      have q68_0 := Lr2_60.frozen 0
      have q68_1 := Lr2_60.frozen 1
      have q68_2 := Lr2_60.frozen 2
      have q68_3 := Lr2_60.frozen 3
      have q68_lt := Lr2_60.lt
      go_wp2
      clear q67_0 q67_1 q67_2 q67_3 q67_lt q68_0 q68_1 q68_2 q68_3 q68_lt
      exact QB.fin rfl Lr2_60 (by simp [noInt_b, noInt_s]) HB59.out (by omega) (by rw [HV.out]; exact zeroQ _ _) rfl (by rw [HV.out]; rfl)
     ·have hone : (sb.toList == [49]) = false := by rw [Lib.toList_data, ← HYT.out]; exact beq_eq_false_iff_ne.2 (fun h => hy1 (itoa_is_one.1 h))
      have HV := Lib.hid (show r = (some (mkRat x y.natAbs), 0) by rw [HRR.out, if_neg (by decide), if_pos ⟨by have := HQ.out.1; omega, HQ.out.2⟩])
      have HY2 := Lib.hid (show y = ((y.natAbs : Nat) : Int) by have := HQ.out.1; omega)
      clear hy1
      have Ln_70 := CB.step Ln_47 B51.out
      have q71_0 := Ln_70.cell 0 rfl
      have q71_1 := Ln_70.cell 1 rfl
      have q71_lt := Ln_70.lt
      have Ld_72 := CB.step Ld_39 B51.out
      have q73_0 := Ld_72.cell 0 rfl
      have q73_1 := Ld_72.cell 1 rfl
      have q73_lt := Ld_72.lt
      go_wp2_with fail
      refine (madeQ_yes _ n7 n38 Ad7 Ad38 l7 c7 l38 c38).mono ?_
      rintro e w69 ⟨hb69, rfl⟩
      have B74 := Lib.hid hb69
      have z74 := B74.out.size
      have HB75 := Lib.hid (HB52.out.trans (B74.out.mono HB52.out.size))
      clear hb69
      clear q71_0 q71_1 q71_lt q73_0 q73_1 q73_lt
      have P6_8_76 := Lib.hid (B51.out.trans (B74.out.mono B51.out.size))
      have Hn_77 := Lib.hid (LV.step Hn_44.out P6_8_76.out)
      have Hd_78 := Lib.hid (LV.step Hd_45.out P6_8_76.out)
      have HRES := Lib.hid (show QV w69 w69.heap.size (.agg #[.bool n7, .slice Ad7 l7 c7, .bool n38, .slice Ad38 l38 c38]) (mkRat x y.natAbs) from QV.of Hn_77.out (by rw [← HY2.out]; exact Hd_78.out) (by have := HQ.out.1; omega) HQ.out.2)
      have P1_3_80 := Lib.hid (B2.out.trans (B5.out.mono B2.out.size))
      have P1_4_81 := Lib.hid (P1_3_80.out.trans (B9.out.mono P1_3_80.out.size))
      have P1_5_82 := Lib.hid (P1_4_81.out.trans (B36.out.mono P1_4_81.out.size))
      have P1_6_83 := Lib.hid (P1_5_82.out.trans (B40.out.mono P1_5_82.out.size))
      have P1_7_84 := Lib.hid (P1_6_83.out.trans (B51.out.mono P1_6_83.out.size))
      have P1_8_85 := Lib.hid (P1_7_84.out.trans (B74.out.mono P1_7_84.out.size))
      have Lr2_79 := CB.step Lr2 P1_8_85.out
      have q86_0 := Lr2_79.cell 0 rfl
      have q86_1 := Lr2_79.cell 1 rfl
      have q86_2 := Lr2_79.cell 2 rfl
      have q86_3 := Lr2_79.cell 3 rfl
      have q86_lt := Lr2_79.lt
      have q87_0 := Lr2_79.frozen 0
      have q87_1 := Lr2_79.frozen 1
      have q87_2 := Lr2_79.frozen 2
      have q87_3 := Lr2_79.frozen 3
      have q87_lt := Lr2_79.lt
      go_wp2
      clear q86_0 q86_1 q86_2 q86_3 q86_lt q87_0 q87_1 q87_2 q87_3 q87_lt
      exact QB.fin rfl Lr2_79 (by simp [noInt_b, noInt_s]) HB75.out (by omega) (by rw [HV.out]; exact HRES.out) rfl (by rw [HV.out]; rfl)
    ·have HQO := Lib.hid (show qOf _ _ _ _ = none from (qOf_pair HXL.out HYL.out).trans (if_neg hq)); have HV := Lib.hid (show r = (none, 5) by rw [HRR.out, if_neg (by decide), if_neg (fun h => hq ⟨by omega, h.2⟩)]); clear hq
     have P4_6_90 := Lib.hid (B36.out.trans (B40.out.mono B36.out.size))
     have Ln_89 := CB.step Ln_8 P4_6_90.out
     have q91_0 := Ln_89.cell 0 rfl
     have q91_1 := Ln_89.cell 1 rfl
     have q91_lt := Ln_89.lt
     have q92_0 := Ld_39.cell 0 rfl
     have q92_1 := Ld_39.cell 1 rfl
     have q92_lt := Ld_39.lt
     go_wp2_with fail
     refine (QCheck_no HQR.out HQO.out).mono ?_
     rintro e w88 ⟨hb88, rfl⟩
     have B93 := Lib.hid hb88
     have z93 := B93.out.size
     have HB94 := Lib.hid (HB41.out.trans (B93.out.mono HB41.out.size))
     clear hb88
     clear q91_0 q91_1 q91_lt q92_0 q92_1 q92_lt
     have Ln_96 := CB.step Ln_89 B93.out
     have q97_0 := Ln_96.cell 0 rfl
     have q97_1 := Ln_96.cell 1 rfl
     have q97_lt := Ln_96.lt
     have Ld_98 := CB.step Ld_39 B93.out
     have q99_0 := Ld_98.cell 0 rfl
     have q99_1 := Ld_98.cell 1 rfl
     have q99_lt := Ld_98.lt
     go_wp2_with fail
     refine (madeQ_no _ n7 n38 Ad7 Ad38 l7 c7 l38 c38 5 (by decide)).mono ?_
     rintro e w95 ⟨hb95, rfl⟩
     have B100 := Lib.hid hb95
     have z100 := B100.out.size
     have HB101 := Lib.hid (HB94.out.trans (B100.out.mono HB94.out.size))
     clear hb95
     clear q97_0 q97_1 q97_lt q99_0 q99_1 q99_lt
     have P1_3_103 := Lib.hid (B2.out.trans (B5.out.mono B2.out.size))
     have P1_4_104 := Lib.hid (P1_3_103.out.trans (B9.out.mono P1_3_103.out.size))
     have P1_5_105 := Lib.hid (P1_4_104.out.trans (B36.out.mono P1_4_104.out.size))
     have P1_6_106 := Lib.hid (P1_5_105.out.trans (B40.out.mono P1_5_105.out.size))
     have P1_7_107 := Lib.hid (P1_6_106.out.trans (B93.out.mono P1_6_106.out.size))
     have P1_8_108 := Lib.hid (P1_7_107.out.trans (B100.out.mono P1_7_107.out.size))
     have Lr2_102 := CB.step Lr2 P1_8_108.out
     have q109_0 := Lr2_102.cell 0 rfl
     have q109_1 := Lr2_102.cell 1 rfl
     have q109_2 := Lr2_102.cell 2 rfl
     have q109_3 := Lr2_102.cell 3 rfl
     have q109_lt := Lr2_102.lt
     have q110_0 := Lr2_102.frozen 0
     have q110_1 := Lr2_102.frozen 1
     have q110_2 := Lr2_102.frozen 2
     have q110_3 := Lr2_102.frozen 3
     have q110_lt := Lr2_102.lt
     go_wp2
     clear q109_0 q109_1 q109_2 q109_3 q109_lt q110_0 q110_1 q110_2 q110_3 q110_lt
     exact QB.fin rfl Lr2_102 (by simp [noInt_b, noInt_s]) HB101.out (by omega) (by rw [HV.out]; exact zeroQ _ _) rfl (by rw [HV.out]; rfl)
   ·have HE := Lib.hid he2; have hez : (e2 == 0) = false := by rw [beq_eq_false_iff_ne]; exact he2
    have HV := Lib.hid (show r = (none, e2) by rw [HRR.out, if_pos he2]); clear he2
    have P4_6_113 := Lib.hid (B36.out.trans (B40.out.mono B36.out.size))
    have Ln_112 := CB.step Ln_8 P4_6_113.out
    have q114_0 := Ln_112.cell 0 rfl
    have q114_1 := Ln_112.cell 1 rfl
    have q114_lt := Ln_112.lt
    have q115_0 := Ld_39.cell 0 rfl
    have q115_1 := Ld_39.cell 1 rfl
    have q115_lt := Ld_39.lt
    go_wp2_with fail
    refine (madeQ_no _ n7 n38 Ad7 Ad38 l7 c7 l38 c38 e2 HE.out).mono ?_
    rintro e w111 ⟨hb111, rfl⟩
    have B116 := Lib.hid hb111
    have z116 := B116.out.size
    have HB117 := Lib.hid (HB41.out.trans (B116.out.mono HB41.out.size))
    clear hb111
    clear q114_0 q114_1 q114_lt q115_0 q115_1 q115_lt
    have P1_3_119 := Lib.hid (B2.out.trans (B5.out.mono B2.out.size))
    have P1_4_120 := Lib.hid (P1_3_119.out.trans (B9.out.mono P1_3_119.out.size))
    have P1_5_121 := Lib.hid (P1_4_120.out.trans (B36.out.mono P1_4_120.out.size))
    have P1_6_122 := Lib.hid (P1_5_121.out.trans (B40.out.mono P1_5_121.out.size))
    have P1_7_123 := Lib.hid (P1_6_122.out.trans (B116.out.mono P1_6_122.out.size))
    have Lr2_118 := CB.step Lr2 P1_7_123.out
    have q124_0 := Lr2_118.cell 0 rfl
    have q124_1 := Lr2_118.cell 1 rfl
    have q124_2 := Lr2_118.cell 2 rfl
    have q124_3 := Lr2_118.cell 3 rfl
    have q124_lt := Lr2_118.lt
    have q125_0 := Lr2_118.frozen 0
    have q125_1 := Lr2_118.frozen 1
    have q125_2 := Lr2_118.frozen 2
    have q125_3 := Lr2_118.frozen 3
    have q125_lt := Lr2_118.lt
    go_wp2
    clear q124_0 q124_1 q124_2 q124_3 q124_lt q125_0 q125_1 q125_2 q125_3 q125_lt
    exact QB.fin rfl Lr2_118 (by simp [noInt_b, noInt_s]) HB117.out (by omega) (by rw [HV.out]; exact zeroQ _ _) rfl (by rw [HV.out]; rfl)
 ·have HE := Lib.hid he1; have hez : (e1 == 0) = false := by rw [beq_eq_false_iff_ne]; exact he1
  have HV := Lib.hid (show r = (none, e1) by rw [HRR.out, if_pos he1]); clear he1
  go_upto_region 4 with (fail)
  refine Flow.run [⟨0, 27, fun fv fw => fv = .agg #[.bool n7, .slice Ad7 l7 c7]⟩, ⟨1, 28, fun fv fw => LV fw fw.heap.size fv 1⟩, ⟨2, 29, fun fv fw => QV fw fw.heap.size fv (mkRat x 1)⟩, ⟨3, 30, fun fv fw => fv = .int .i64 e1⟩, ⟨4, 31, fun fv fw => ∃ u, fv = .tuple #[u, .int .i64 e1] ∧ QO fw fw.heap.size u none⟩, ⟨5, 32, fun fv fw => QO fw fw.heap.size fv none⟩, ⟨6, 33, fun fv fw => fv = .int .i64 e1⟩] [] [] 2 (by kernel_rfl) (by kernel_rfl) (by kernel_rfl) (fun _ _ _ _ _ h => h) ?_ ?_ ?_ ?_
  ·refine (all_cons (fun v w1 w2 h hb => h) (all_cons (fun v w1 w2 h hb => h.step hb) (all_cons (fun v w1 w2 h hb => h.step hb) (all_cons (fun v w1 w2 h hb => h) (all_cons (fun v w1 w2 h hb => let ⟨u, e, h⟩ := h; ⟨u, e, QO.step (o := none) h hb⟩) (all_cons (fun v w1 w2 h hb => QO.step (o := none) h hb) (all_cons (fun v w1 w2 h hb => h) all_nil)))))))
  ·refine (all_cons ?_ (all_cons ?_ (all_cons ?_ (all_cons ?_ (all_cons ?_ (all_cons ?_ (all_cons ?_ all_nil)))))))
   ·intro xs wk126 hBk hdep
    have HBk126 := Lib.hid hBk; have zk126 := hBk.size; clear hBk
    clear hdep
    refine wpOp_step (o := _) rfl (fun K hK => ?_)
    simp only [FL]
    have Ln_127 := CB.step Ln_8 HBk126.out
    have q128_0 := Ln_127.cell 0 rfl
    have q128_1 := Ln_127.cell 1 rfl
    go_simp
    refine hK _ _ ⟨.agg #[.bool n7, .slice Ad7 l7 c7], by kernel_rfl, Below.refl _ _, rfl, nF⟩
   ·intro xs wk129 hBk hdep
    have HBk129 := Lib.hid hBk; have zk129 := hBk.size; clear hBk
    clear hdep
    refine wpOp_step (o := _) rfl (fun K hK => ?_)
    simp only [FL]
    go_simp
    (with_reducible refine (Of_any _ 1 (by decide) (by decide)).mono ?_)
    rintro e wc130 ⟨hb130, v130, rfl, hv130⟩
    refine hK _ _ ⟨v130, by kernel_rfl, hb130, hv130, nF⟩
   ·intro xs wk131 hBk hdep
    have HBk131 := Lib.hid hBk; have zk131 := hBk.size; clear hBk
    have f0 : (xs 0) = .agg #[.bool n7, .slice Ad7 l7 c7] := hdep _ (m_ 0 rfl) (by kernel_rfl)
    have f1 : LV wk131 wk131.heap.size (xs 1) 1 := hdep _ (m_ 1 rfl) (by kernel_rfl)
    clear hdep
    refine wpOp_step (o := _) rfl (fun K hK => ?_)
    simp only [FL]
    obtain ⟨on1, oA1, ol1, oc1, hx1, hv1⟩ := LV.opened f1; rw [hx1]
    have P3_5_132 := Lib.hid (B9.out.trans (HBk131.out.mono B9.out.size))
    have Hn_133 := Lib.hid (LV.step Hn_7.out P3_5_132.out)
    have HVV := Lib.hid hv1; clear hv1
    go_simp
    refine hK _ _ ⟨.agg #[.bool n7, .slice Ad7 l7 c7, .bool on1, .slice oA1 ol1 oc1], by simp only [FL, f0, hx1] <;> kernel_rfl, Below.refl _ _, QV.of (d := 1) Hn_133.out HVV.out (by decide) (Nat.gcd_one_right _), nF⟩
   ·intro xs wk134 hBk hdep
    have HBk134 := Lib.hid hBk; have zk134 := hBk.size; clear hBk
    clear hdep
    refine wpOp_step (o := _) rfl (fun K hK => ?_)
    simp only [FL]
    go_simp
    refine hK _ _ ⟨.int .i64 e1, by kernel_rfl, Below.refl _ _, rfl, nF⟩
   ·intro xs wk135 hBk hdep
    have HBk135 := Lib.hid hBk; have zk135 := hBk.size; clear hBk
    have f2 : QV wk135 wk135.heap.size (xs 2) (mkRat x 1) := hdep _ (m_ 2 rfl) (by kernel_rfl)
    have f3 : (xs 3) = .int .i64 e1 := hdep _ (m_ 3 rfl) (by kernel_rfl)
    clear hdep
    refine wpOp_step (o := _) rfl (fun K hK => ?_)
    simp only [FL]
    obtain ⟨qn, qA, ql, qc, qB, qm, qd, hu, ra, rb, rc⟩ := f2; rw [hu]; have RC := Lib.hid (And.intro ra (And.intro rb rc)); clear ra rb rc
    go_simp
    (with_reducible refine (madeQ_no _ qn false qA qB ql qc qm qd e1 HE.out).mono ?_)
    rintro e wc136 ⟨hb136, rfl⟩
    refine hK _ _ ⟨.tuple #[.agg #[.bool false, .slice none 0 0, .bool false, .slice none 0 0], .int .i64 e1], by simp only [FL, f3, hu] <;> kernel_rfl, hb136, ⟨_, rfl, zeroQ _ _⟩, nF⟩
   ·intro xs wk137 hBk hdep
    have HBk137 := Lib.hid hBk; have zk137 := hBk.size; clear hBk
    have f4 : ∃ u, (xs 4) = .tuple #[u, .int .i64 e1] ∧ QO wk137 wk137.heap.size u none := hdep _ (m_ 4 rfl) (by kernel_rfl)
    clear hdep
    refine wpOp_step (o := _) rfl (fun K hK => ?_)
    simp only [FL]
    obtain ⟨u, hu, hl⟩ := f4; rw [hu]
    go_simp
    refine hK _ _ ⟨u, by simp only [FL, hu] <;> kernel_rfl, Below.refl _ _, hl, nF⟩
   ·intro xs wk138 hBk hdep
    have HBk138 := Lib.hid hBk; have zk138 := hBk.size; clear hBk
    have f4 : ∃ u, (xs 4) = .tuple #[u, .int .i64 e1] ∧ QO wk138 wk138.heap.size u none := hdep _ (m_ 4 rfl) (by kernel_rfl)
    clear hdep
    refine wpOp_step (o := _) rfl (fun K hK => ?_)
    simp only [FL]
    obtain ⟨u, hu, -⟩ := f4; rw [hu]
    go_simp
    refine hK _ _ ⟨.int .i64 e1, by simp only [FL, hu] <;> kernel_rfl, Below.refl _ _, rfl, nF⟩
  ·exact all_nil
  ·intro xs wf139 hbf hf hn hd
   have f0 : (xs 0) = .agg #[.bool n7, .slice Ad7 l7 c7] := hf _ (m_ 0 rfl)
   have f1 : LV wf139 wf139.heap.size (xs 1) 1 := hf _ (m_ 1 rfl)
   have f2 : QV wf139 wf139.heap.size (xs 2) (mkRat x 1) := hf _ (m_ 2 rfl)
   have f3 : (xs 3) = .int .i64 e1 := hf _ (m_ 3 rfl)
   have f4 : ∃ u, (xs 4) = .tuple #[u, .int .i64 e1] ∧ QO wf139 wf139.heap.size u none := hf _ (m_ 4 rfl)
   have f5 : QO wf139 wf139.heap.size (xs 5) none := hf _ (m_ 5 rfl)
   have f6 : (xs 6) = .int .i64 e1 := hf _ (m_ 6 rfl)
   clear hf hn hd
   simp only [FL]
   have B140 := Lib.hid hbf
   have z140 := B140.out.size
   have HB141 := Lib.hid (HB10.out.trans (B140.out.mono HB10.out.size))
   clear hbf
   generalize xs 0 = x0 at *
   generalize xs 1 = x1 at *
   generalize xs 2 = x2 at *
   generalize xs 3 = x3 at *
   generalize xs 4 = x4 at *
   generalize xs 5 = x5 at *
   generalize xs 6 = x6 at *
   obtain rfl := f0
   clear f1
   clear f2
   obtain rfl := f3
   clear f4
   have hg142 := f5; obtain ⟨on142, oA142, ol142, oc142, oe142, oB142, om_142, od142, rfl⟩ := QO.cells hg142; have Hres_142 := Lib.hid hg142; clear hg142
   obtain rfl := f6
   have P1_3_144 := Lib.hid (B2.out.trans (B5.out.mono B2.out.size))
   have P1_4_145 := Lib.hid (P1_3_144.out.trans (B9.out.mono P1_3_144.out.size))
   have P1_5_146 := Lib.hid (P1_4_145.out.trans (B140.out.mono P1_4_145.out.size))
   have Lr2_143 := CB.step Lr2 P1_5_146.out
   have q147_0 := Lr2_143.cell 0 rfl
   have q147_1 := Lr2_143.cell 1 rfl
   have q147_2 := Lr2_143.cell 2 rfl
   have q147_3 := Lr2_143.cell 3 rfl
   have q147_lt := Lr2_143.lt
   have q148_0 := Lr2_143.frozen 0
   have q148_1 := Lr2_143.frozen 1
   have q148_2 := Lr2_143.frozen 2
   have q148_3 := Lr2_143.frozen 3
   have q148_lt := Lr2_143.lt
   refine Early.next (i := 7) (by kernel_rfl) rfl (fun K hK => ?_)
   go_simp
   refine hK _ _ (fun _ => trivial) ?_
   clear hK K
   (try simp only [Act.put, List.setIfInBounds_toArray, List.set_cons_zero, List.set_cons_succ])
   clear q147_0 q147_1 q147_2 q147_3 q147_lt q148_0 q148_1 q148_2 q148_3 q148_lt
   refine Early.next (i := 8) (by kernel_rfl) rfl (fun K hK => ?_)
   go_simp
   refine hK _ _ (fun _ => trivial) ?_
   clear hK K
   (try simp only [Act.put, List.setIfInBounds_toArray, List.set_cons_zero, List.set_cons_succ])
   refine Early.done (by kernel_rfl) ?_ _
   (try simp only [Exit.then])
   go_wp2
   exact QB.fin rfl Lr2_143 (by simp [noInt_b, noInt_s]) HB141.out (by omega) (by rw [HV.out]; exact Hres_142.out) rfl (by rw [HV.out]; rfl)
end Go.Proofs.YtioclokmbgmamaaGreatDoor
