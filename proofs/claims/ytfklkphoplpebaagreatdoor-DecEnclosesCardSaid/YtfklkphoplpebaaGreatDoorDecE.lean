/- dec.Fixed and dec.Both at any arguments (written by gen_dece.py). -/
import Derived.Test.YtfklkphoplpebaaGreatDoorDecS
namespace Go.Proofs.YtfklkphoplpebaaGreatDoor
open Go Go.RowKit Dig

def AnsS (r : List UInt8 × Int) (e : Ending) : Prop := ∃ t : ByteArray, e = .returned (.tuple #[.string t, .int .i64 r.2]) ∧ t.data.toList = r.1
instance (v : Int) : Decidable (fixOk v) := by unfold fixOk; infer_instance
theorem Way.ne1 {w : World} {b c : Nat} {up : Bool} {t : TypeId} {v : Value} (h : Way w c up) (k : One w b t v) (hv : ∀ x, v ≠ .bool x) : c ≠ b := fun e => by
  subst e
  have := h.1.symm.trans k
  injection this with this
  injection this with this
  simp at this
  exact hv _ this.symm
theorem Way.ne2 {w : World} {b c : Nat} {up : Bool} {t : TypeId} {v : Value} (h : Way w c up) (k : One w b t v) (hv : ∀ x, v ≠ .int .i64 x) : c + 1 ≠ b := fun e => by
  subst e
  have := h.2.symm.trans k
  injection this with this
  injection this with this
  simp at this
  exact hv _ this.symm
def fixedD (v d : Int) (up : Bool) : List UInt8 × Int := if fixOk v ∧ 0 ≤ d ∧ d ≤ 12 then (decT (rndZ v d.toNat up) d.toNat, 0) else ([], 2)
def spanOk (lo hi : Int) : Prop := -4503599627370496 ≤ lo ∧ lo ≤ hi ∧ hi ≤ 4503599627370496
instance (lo hi : Int) : Decidable (spanOk lo hi) := by unfold spanOk; infer_instance
def bothT (lo hi : Int) (d : Nat) : List UInt8 := [91] ++ decT (rndZ lo d false) d ++ [44, 32] ++ decT (rndZ hi d true) d ++ [93]
def bothD (lo hi d : Int) : List UInt8 × Int := if spanOk lo hi then (if 0 ≤ d ∧ d ≤ 12 then (bothT lo hi d.toNat, 0) else ([], 2)) else ([], 20)
theorem decT_size {n : Int} {d : Nat} (hn : n.natAbs < 10 ^ 40) (hd : d ≤ 18) : (decT n d).length ≤ 100 := by
  unfold decT
  rw [List.length_append, List.length_append]
  have h1 : (sign n).length ≤ 1 := by unfold sign; split <;> simp
  have h2 : (Lib.decDigits (n.natAbs / 10 ^ d)).length ≤ 40 := by
    rw [Lib.decDigits_length]
    exact (nd_le (by omega)).2 (Nat.lt_of_le_of_lt (Nat.div_le_self _ _) hn)
  have h3 : (trimZ (digs d n.natAbs)).length ≤ d := by
    have h := (List.dropWhile_sublist (l := (digs d n.natAbs).reverse) (· == (48 : UInt8))).length_le
    rw [List.length_reverse, digs_len] at h
    unfold trimZ
    rw [List.length_reverse]
    exact h
  have h4 : (frac (trimZ (digs d n.natAbs))).length ≤ 1 + d := by
    unfold frac; split
    · simp
    · rw [List.length_cons]; omega
  omega
theorem rnd_size {v : Int} {d : Nat} {up : Bool} (hv : fixOk v) (hd : d ≤ 12) : (decT (rndZ v d up) d).length ≤ 100 := decT_size (by have := rnd_small (up := up) hv hd; omega) (by omega)
theorem ways_any (w : World) :
    Calls Tryz.prog 45 #[] w fun e w' => Below w.heap.size w w' ∧ ∃ b c : Nat, e = .returned (.agg #[stepV b, stepV c]) ∧ Way w' b false ∧ Way w' c true :=
  (rounds_any w).mono fun _ _ ⟨hb, b, c, he, h0, h1, h2, h3⟩ => ⟨hb, b, c, he, ⟨h0, h1⟩, ⟨h2, h3⟩⟩
theorem store_step {w : World} {b : Nat} {t : TypeId} {v : Value} (h : One w b t v) (c : Nat) : (store ⟨b, 0, none⟩ (stepV c)).run Tryz.prog w = .ok () (w.setCell ⟨b, 0, none⟩ (stepV c)) := by
  unfold stepV
  rw [run_store _ _ _ _ _ rfl, h.cell, h.frozen]; rfl
theorem way_idx0 (a b : Value) (w : World) : (Instr.index 82 (.agg #[a, b]) (.int .i64 0)).run Tryz.prog w = .ok (.agg #[a]) w := by kernel_rfl
theorem way_idx1 (a b : Value) (w : World) : (Instr.index 82 (.agg #[a, b]) (.int .i64 1)).run Tryz.prog w = .ok (.agg #[b]) w := by kernel_rfl

set_option maxRecDepth 100000 in
set_option maxHeartbeats 4000000 in
theorem DFixed_any (w : World) (v d : Int) (up : Bool) (G : Glob w) :
    Calls Tryz.prog 18 #[.int .i64 v, .int .i64 d, .bool up] w fun e w' => Below w.heap.size w w' ∧ AnsS (fixedD v d up) e := by
  by_cases hv : fixOk v
  · by_cases hd : 0 ≤ d ∧ d ≤ 12
    · obtain ⟨k, rfl⟩ : ∃ k : Nat, d = (k : Int) := ⟨d.toNat, by omega⟩
      have HT := Lib.hid (show fixedD v (k : Int) up = (decT (rndZ v k up) k, 0) by unfold fixedD; rw [if_pos ⟨hv, hd⟩, Int.toNat_natCast]); rw [HT.out]
      have e1 : (0 : Int) ≤ (k : Int) := by omega
      have e2 : (k : Int) ≤ 12 := by omega
      have HK := Lib.hid (show k ≤ 12 by omega); have HV := Lib.hid hv; clear hd hv HT
      go_enter Tryz.func18, Tryz.ntmps18
      go_wp2_with fail
      refine (FCheck_yes _ v HV.out).mono ?_
      rintro e w1 ⟨rfl, hw⟩; rw [hw]; clear hw w1
      go_wp2_with fail
      refine (ways_any _).mono ?_
      rintro e w1 ⟨hb1, b, c, rfl, hwb, hwc⟩
      have B2 := Lib.hid hb1
      have z2 := B2.out.size
      clear hb1
      have hi0 := way_idx0 (stepV b) (stepV c)
      have O0 := One.new w1 81 .nilFunc; have hst := store_step O0 b
      go_upto_region 4 with (fail)
      obtain ⟨w9, hw9⟩ : ∃ w9 : World, w9 = w1.alloc (.cells #[stepV b] 81) := ⟨_, rfl⟩; rw [← hw9]
      have O1 : One w9 w1.heap.size 81 (stepV b) := by rw [hw9]; exact One.new _ _ _
      have hb9 : Below w1.heap.size w1 w9 := by rw [hw9]; exact below_alloc1 (Below.refl _ _) _
      clear hw9 hst O0 hi0
      replace hwb := hwb.step hb9; clear hwc
      have B3 := Lib.hid hb9
      have z3 := B3.out.size
      have HB4 := Lib.hid (B2.out.trans (B3.out.mono B2.out.size))
      clear hb9
      cases up
      · have HU := Lib.hid (show k ≤ 12 from HK.out)
        have q5_0 := O1.cell; have q5_1 := O1.frozen; have q5_lt := O1.lt
        go_upto_region 6 with (fail)
        go_wp2_with fail
        refine (fixed_any _ v HV.out k HK.out _ false hwb (G.step HB4.out)).mono ?_
        rintro e w7 ⟨hb7, t, rfl, ht⟩
        have B6 := Lib.hid hb7
        have z6 := B6.out.size
        have HB7 := Lib.hid (HB4.out.trans (B6.out.mono HB4.out.size))
        go_wp2
        go_ret2
        exact ⟨HB7.out, _, rfl, ht⟩
      · have HU := Lib.hid (show k ≤ 12 from HK.out)
        have q8_0 := O1.cell; have q8_1 := O1.frozen; have q8_lt := O1.lt
        go_wp2_with fail
        refine (ways_any _).mono ?_
        rintro e w3 ⟨hb3, b2, c2, rfl, -, hwc⟩
        have B9 := Lib.hid hb3
        have z9 := B9.out.size
        have HB10 := Lib.hid (HB4.out.trans (B9.out.mono HB4.out.size))
        clear q8_0 q8_1 q8_lt
        have hi1 := way_idx1 (stepV b2) (stepV c2)
        have Lway_11 := One.step O1 B9.out
        have hst := store_step Lway_11 c2
        have q12_0 := Lway_11.cell; have q12_1 := Lway_11.frozen; have q12_lt := Lway_11.lt
        go_upto_region 6 with (fail)
        obtain ⟨w8, hw8⟩ : ∃ w8 : World, w8 = w3.setCell ⟨w1.heap.size, 0, none⟩ (stepV c2) := ⟨_, rfl⟩; rw [← hw8]
        have O2 : One w8 (w1.heap.size) 81 (stepV c2) := by rw [hw8]; exact Lway_11.set _
        have hb8 : Below w.heap.size w w8 := by rw [hw8]; exact below_set1 HB10.out (by omega) _ _
        replace hwc : Way w8 c2 true := by rw [hw8]; exact ⟨hwc.1.far (p := ⟨w1.heap.size, 0, none⟩) (hwc.ne1 Lway_11 (by intro x e; cases e)) _, hwc.2.far (p := ⟨w1.heap.size, 0, none⟩) (hwc.ne2 Lway_11 (by intro x e; cases e)) _⟩
        clear hw8 hst hi1
        clear q12_0 q12_1 q12_lt
        have HB8 := Lib.hid hb8; clear hb8
        have q1 := O2.cell; have q2 := O2.frozen
        go_wp2_with fail
        refine (fixed_any _ v HV.out k HK.out _ true hwc (G.step HB8.out)).mono ?_
        rintro e w7 ⟨hb7, t, rfl, ht⟩
        have B13 := Lib.hid hb7
        have z13 := B13.out.size
        have HB14 := Lib.hid (HB8.out.trans (B13.out.mono HB8.out.size))
        go_wp2
        go_ret2
        exact ⟨HB14.out, _, rfl, ht⟩
    · have HT := Lib.hid (show fixedD v d up = ([], 2) by unfold fixedD; rw [if_neg (fun h => hd h.2)]); rw [HT.out]
      have HV := Lib.hid hv; clear HT hv
      by_cases h1 : d < 0
      · clear hd
        go_enter Tryz.func18, Tryz.ntmps18
        go_wp2_with fail
        refine (FCheck_yes _ v HV.out).mono ?_
        rintro e w1 ⟨rfl, hw⟩; rw [hw]; clear hw w1
        go_wp2
        go_ret2
        exact ⟨Below.refl _ _, _, rfl, rfl⟩
      · have h2 : 12 < d := by omega
        clear hd
        go_enter Tryz.func18, Tryz.ntmps18
        go_wp2_with fail
        refine (FCheck_yes _ v HV.out).mono ?_
        rintro e w1 ⟨rfl, hw⟩; rw [hw]; clear hw w1
        go_wp2
        go_ret2
        exact ⟨Below.refl _ _, _, rfl, rfl⟩
  · have HT := Lib.hid (show fixedD v d up = ([], 2) by unfold fixedD; rw [if_neg (fun h => hv h.1)]); rw [HT.out]
    have HV := Lib.hid hv; clear HT hv
    go_enter Tryz.func18, Tryz.ntmps18
    go_wp2_with fail
    refine (FCheck_no _ v HV.out).mono ?_
    rintro e w1 ⟨rfl, hw⟩; rw [hw]; clear hw w1
    go_wp2
    go_ret2
    exact ⟨Below.refl _ _, _, rfl, rfl⟩
theorem SCheck_yes (w : World) (lo hi : Int) (h : spanOk lo hi) : Calls Tryz.prog 49 #[.agg #[.int .i64 lo, .int .i64 hi]] w fun e w' => Below w.heap.size w w' ∧ e = .returned (.int .i64 0) := by
  obtain ⟨h1, h2, h3⟩ := h
  have hb := below_alloc1 (Below.refl w.heap.size w) (.cells #[.int .i64 lo, .int .i64 hi] 37)
  have HB := Lib.hid hb; clear hb
  go_enter Tryz.func49, Tryz.ntmps49
  go_wp2
  go_ret
  exact ⟨HB.out, rfl⟩
theorem SCheck_no (w : World) (lo hi : Int) (h : ¬ spanOk lo hi) : Calls Tryz.prog 49 #[.agg #[.int .i64 lo, .int .i64 hi]] w fun e w' => Below w.heap.size w w' ∧ e = .returned (.int .i64 20) := by
  have hb := below_alloc1 (Below.refl w.heap.size w) (.cells #[.int .i64 lo, .int .i64 hi] 37)
  have HB := Lib.hid hb; clear hb
  have h3 : lo < -4503599627370496 ∨ (¬ lo < -4503599627370496 ∧ hi < lo) ∨ (¬ lo < -4503599627370496 ∧ ¬ hi < lo ∧ 4503599627370496 < hi) := by unfold spanOk at h; omega
  clear h
  rcases h3 with h1 | ⟨h1, h2⟩ | ⟨h1, h2, h3⟩
  · go_enter Tryz.func49, Tryz.ntmps49
    go_wp2
    go_ret
    exact ⟨HB.out, rfl⟩
  · go_enter Tryz.func49, Tryz.ntmps49
    go_wp2
    go_ret
    exact ⟨HB.out, rfl⟩
  · go_enter Tryz.func49, Tryz.ntmps49
    go_wp2
    go_ret
    exact ⟨HB.out, rfl⟩
set_option linter.unusedSimpArgs false in
set_option maxRecDepth 100000 in
set_option maxHeartbeats 4000000 in
theorem DBoth_any (w : World) (lo hi d : Int) (G : Glob w) :
    Calls Tryz.prog 20 #[.agg #[.int .i64 lo, .int .i64 hi], .int .i64 d] w fun e w' => Below w.heap.size w w' ∧ AnsS (bothD lo hi d) e := by
  obtain ⟨w0, hw0⟩ : ∃ w0 : World, w0 = (w.alloc (.cells #[.int .i64 lo, .int .i64 hi] 37)) := ⟨_, rfl⟩
  have B0 := Lib.hid (show Below w.heap.size w w0 by rw [hw0]; (repeat' (first | exact Below.refl _ _ | refine Below.drew ?_ | refine Below.alloc ?_ (by first | exact Nat.le_refl _ | (simp; done) | (simp; omega)) _)))
  have z0 : w.heap.size + 1 ≤ w0.heap.size := by rw [hw0]; simp
  have La : CB w0 (w.heap.size) 37 #[.int .i64 lo, .int .i64 hi] := by rw [hw0]; have h := CB.new w 37 #[.int .i64 lo, .int .i64 hi]; simpa using h
  by_cases hs : spanOk lo hi
  · have HS := Lib.hid hs
    have hlo : fixOk lo := by unfold spanOk at hs; unfold fixOk; omega
    have hhi : fixOk hi := by unfold spanOk at hs; unfold fixOk; omega
    have HLO := Lib.hid hlo; have HHI := Lib.hid hhi; clear hlo hhi
    by_cases hd : 0 ≤ d ∧ d ≤ 12
    · obtain ⟨k, rfl⟩ : ∃ k : Nat, d = (k : Int) := ⟨d.toNat, by omega⟩
      have HT := Lib.hid (show bothD lo hi (k : Int) = (bothT lo hi k, 0) by unfold bothD; rw [if_pos hs, if_pos hd, Int.toNat_natCast]); rw [HT.out]
      have e1 : (0 : Int) ≤ (k : Int) := by omega
      have e2 : (k : Int) ≤ 12 := by omega
      have HK := Lib.hid (show k ≤ 12 by omega); clear hd hs HT
      go_enter Tryz.func20, Tryz.ntmps20
      go_upto_region 1 with (fail)
      rw [← hw0]; clear hw0
      have q2_0 := La.cell 0 rfl
      have q2_1 := La.cell 1 rfl
      have q2_lt := La.lt
      go_wp2_with fail
      refine (SCheck_yes _ lo hi HS.out).mono ?_
      rintro e w1 ⟨hb1, rfl⟩
      have B3 := Lib.hid hb1
      have z3 := B3.out.size
      have HB4 := Lib.hid (B0.out.trans (B3.out.mono B0.out.size))
      clear hb1
      clear q2_0 q2_1 q2_lt
      have La_5 := CB.step La B3.out
      have q6_0 := La_5.cell 0 rfl
      have q6_1 := La_5.cell 1 rfl
      have q6_lt := La_5.lt
      go_upto_region 6 with (fail)
      clear q6_0 q6_1 q6_lt
      have HBASE := Lib.hid HB4.out
      refine Flow.run [⟨0, 18, fun fv fw => fv = .pointer (some ⟨w.heap.size, 0, none⟩)⟩, ⟨1, 19, fun fv fw => fv = .int .i64 lo⟩, ⟨2, 20, fun fv fw => fv = .int .i64 (k : Int)⟩, ⟨3, 21, fun fv fw => ∃ b c, fv = .agg #[stepV b, stepV c] ∧ Way fw b false ∧ Way fw c true⟩, ⟨4, 22, fun fv fw => ∃ b, fv = .agg #[stepV b] ∧ Way fw b false⟩, ⟨5, 23, fun fv fw => ∃ s : ByteArray, fv = .string s ∧ s.data.toList = decT (rndZ lo k false) k ∧ s.size ≤ 100⟩, ⟨6, 24, fun fv fw => ∃ s : ByteArray, fv = .string s ∧ s.data.toList = [91] ++ decT (rndZ lo k false) k ∧ s.size ≤ 101⟩, ⟨7, 25, fun fv fw => ∃ s : ByteArray, fv = .string s ∧ s.data.toList = [91] ++ decT (rndZ lo k false) k ++ [44, 32] ∧ s.size ≤ 103⟩, ⟨8, 26, fun fv fw => fv = .pointer (some ⟨w.heap.size, 1, none⟩)⟩, ⟨9, 27, fun fv fw => fv = .int .i64 hi⟩, ⟨10, 28, fun fv fw => fv = .int .i64 (k : Int)⟩, ⟨11, 29, fun fv fw => ∃ b c, fv = .agg #[stepV b, stepV c] ∧ Way fw b false ∧ Way fw c true⟩, ⟨12, 30, fun fv fw => ∃ b, fv = .agg #[stepV b] ∧ Way fw b true⟩, ⟨13, 31, fun fv fw => ∃ s : ByteArray, fv = .string s ∧ s.data.toList = decT (rndZ hi k true) k ∧ s.size ≤ 100⟩, ⟨14, 32, fun fv fw => ∃ s : ByteArray, fv = .string s ∧ s.data.toList = [91] ++ decT (rndZ lo k false) k ++ [44, 32] ++ decT (rndZ hi k true) k ∧ s.size ≤ 203⟩, ⟨15, 33, fun fv fw => ∃ s : ByteArray, fv = .string s ∧ s.data.toList = [91] ++ decT (rndZ lo k false) k ++ [44, 32] ++ decT (rndZ hi k true) k ++ [93] ∧ s.size ≤ 204⟩] [] [] 2 (by kernel_rfl) (by kernel_rfl) (by kernel_rfl) (fun _ _ _ _ _ h => h) ?_ ?_ ?_ ?_
      · refine (all_cons (fun v w1 w2 h hb => h) (all_cons (fun v w1 w2 h hb => h) (all_cons (fun v w1 w2 h hb => h) (all_cons (fun v w1 w2 h hb => let ⟨b, c, e, h1, h2⟩ := h; ⟨b, c, e, h1.step hb, h2.step hb⟩) (all_cons (fun v w1 w2 h hb => let ⟨b, e, h⟩ := h; ⟨b, e, h.step hb⟩) (all_cons (fun v w1 w2 h hb => h) (all_cons (fun v w1 w2 h hb => h) (all_cons (fun v w1 w2 h hb => h) (all_cons (fun v w1 w2 h hb => h) (all_cons (fun v w1 w2 h hb => h) (all_cons (fun v w1 w2 h hb => h) (all_cons (fun v w1 w2 h hb => let ⟨b, c, e, h1, h2⟩ := h; ⟨b, c, e, h1.step hb, h2.step hb⟩) (all_cons (fun v w1 w2 h hb => let ⟨b, e, h⟩ := h; ⟨b, e, h.step hb⟩) (all_cons (fun v w1 w2 h hb => h) (all_cons (fun v w1 w2 h hb => h) (all_cons (fun v w1 w2 h hb => h) all_nil))))))))))))))))
      · refine (all_cons ?_ (all_cons ?_ (all_cons ?_ (all_cons ?_ (all_cons ?_ (all_cons ?_ (all_cons ?_ (all_cons ?_ (all_cons ?_ (all_cons ?_ (all_cons ?_ (all_cons ?_ (all_cons ?_ (all_cons ?_ (all_cons ?_ (all_cons ?_ all_nil))))))))))))))))
        · intro xs wk7 hBk hdep
          have HBk7 := Lib.hid hBk; have zk7 := hBk.size; clear hBk
          clear hdep
          refine wpOp_step (o := _) rfl (fun K hK => ?_)
          simp only [fpairs, List.cons_append, List.nil_append, List.map_cons, List.map_nil, putAll, Act.put, List.setIfInBounds_toArray, List.set_cons_zero, List.set_cons_succ]
          go_simp
          refine hK _ _ ⟨.pointer (some ⟨w.heap.size, 0, none⟩), by kernel_rfl, Below.refl _ _, rfl, fun h => absurd (show false = true from h) Bool.false_ne_true⟩
        · intro xs wk8 hBk hdep
          have HBk8 := Lib.hid hBk; have zk8 := hBk.size; clear hBk
          have f0 : (xs 0) = .pointer (some ⟨w.heap.size, 0, none⟩) := hdep _ (List.mem_of_getElem? (i := 0) rfl) (by kernel_rfl)
          clear hdep
          refine wpOp_step (o := _) rfl (fun K hK => ?_)
          simp only [fpairs, List.cons_append, List.nil_append, List.map_cons, List.map_nil, putAll, Act.put, List.setIfInBounds_toArray, List.set_cons_zero, List.set_cons_succ]
          have La_9 := CB.step La_5 HBk8.out
          have q10_0 := La_9.cell 0 rfl
          have q10_1 := La_9.cell 1 rfl
          have q10_lt := La_9.lt
          go_simp
          refine hK _ _ ⟨.int .i64 lo, by simp only [fpairs, List.cons_append, List.nil_append, List.map_cons, List.map_nil, putAll, Act.put, List.setIfInBounds_toArray, List.set_cons_zero, List.set_cons_succ, f0], Below.refl _ _, rfl, fun h => absurd (show false = true from h) Bool.false_ne_true⟩
        · intro xs wk11 hBk hdep
          have HBk11 := Lib.hid hBk; have zk11 := hBk.size; clear hBk
          clear hdep
          refine wpOp_step (o := _) rfl (fun K hK => ?_)
          simp only [fpairs, List.cons_append, List.nil_append, List.map_cons, List.map_nil, putAll, Act.put, List.setIfInBounds_toArray, List.set_cons_zero, List.set_cons_succ]
          go_simp
          refine hK _ _ ⟨.int .i64 (k : Int), by kernel_rfl, Below.refl _ _, rfl, fun h => absurd (show false = true from h) Bool.false_ne_true⟩
        · intro xs wk12 hBk hdep
          have HBk12 := Lib.hid hBk; have zk12 := hBk.size; clear hBk
          clear hdep
          refine wpOp_step (o := _) rfl (fun K hK => ?_)
          simp only [fpairs, List.cons_append, List.nil_append, List.map_cons, List.map_nil, putAll, Act.put, List.setIfInBounds_toArray, List.set_cons_zero, List.set_cons_succ]
          go_simp
          (with_reducible refine (ways_any _).mono ?_)
          rintro e wc13 ⟨hb13, b, c, rfl, hwb, hwc⟩
          refine hK _ _ ⟨.agg #[stepV b, stepV c], by kernel_rfl, hb13, ⟨b, c, rfl, hwb, hwc⟩, fun h => absurd (show false = true from h) Bool.false_ne_true⟩
        · intro xs wk14 hBk hdep
          have HBk14 := Lib.hid hBk; have zk14 := hBk.size; clear hBk
          have f3 : ∃ b c, (xs 3) = .agg #[stepV b, stepV c] ∧ Way wk14 b false ∧ Way wk14 c true := hdep _ (List.mem_of_getElem? (i := 3) rfl) (by kernel_rfl)
          clear hdep
          refine wpOp_step (o := _) rfl (fun K hK => ?_)
          simp only [fpairs, List.cons_append, List.nil_append, List.map_cons, List.map_nil, putAll, Act.put, List.setIfInBounds_toArray, List.set_cons_zero, List.set_cons_succ]
          obtain ⟨b, c, hu, hb, hc⟩ := f3; rw [hu]; have hi := way_idx0 (stepV b) (stepV c)
          go_simp
          refine hK _ _ ⟨.agg #[stepV b], by simp only [fpairs, List.cons_append, List.nil_append, List.map_cons, List.map_nil, putAll, Act.put, List.setIfInBounds_toArray, List.set_cons_zero, List.set_cons_succ, hu], Below.refl _ _, ⟨b, rfl, hb⟩, fun h => absurd (show false = true from h) Bool.false_ne_true⟩
        · intro xs wk15 hBk hdep
          have HBk15 := Lib.hid hBk; have zk15 := hBk.size; clear hBk
          have f1 : (xs 1) = .int .i64 lo := hdep _ (List.mem_of_getElem? (i := 1) rfl) (by kernel_rfl)
          have f2 : (xs 2) = .int .i64 (k : Int) := hdep _ (List.mem_of_getElem? (i := 2) rfl) (by kernel_rfl)
          have f4 : ∃ b, (xs 4) = .agg #[stepV b] ∧ Way wk15 b false := hdep _ (List.mem_of_getElem? (i := 4) rfl) (by kernel_rfl)
          clear hdep
          refine wpOp_step (o := _) rfl (fun K hK => ?_)
          simp only [fpairs, List.cons_append, List.nil_append, List.map_cons, List.map_nil, putAll, Act.put, List.setIfInBounds_toArray, List.set_cons_zero, List.set_cons_succ]
          obtain ⟨b, hu, hy⟩ := f4; rw [hu]
          go_simp
          (with_reducible refine (fixed_any _ lo HLO.out k HK.out b false hy (G.step (HB4.out.trans (HBk15.out.mono HB4.out.size)))).mono ?_)
          rintro e w2 ⟨hb2, t, rfl, ht⟩
          refine hK _ _ ⟨.string t, by simp only [fpairs, List.cons_append, List.nil_append, List.map_cons, List.map_nil, putAll, Act.put, List.setIfInBounds_toArray, List.set_cons_zero, List.set_cons_succ, f1, f2, hu], hb2, ⟨t, rfl, ht, by rw [Lib.size_eq, ht]; exact rnd_size HLO.out HK.out⟩, fun h => absurd (show false = true from h) Bool.false_ne_true⟩
        · intro xs wk17 hBk hdep
          have HBk17 := Lib.hid hBk; have zk17 := hBk.size; clear hBk
          have f5 : ∃ s : ByteArray, (xs 5) = .string s ∧ s.data.toList = decT (rndZ lo k false) k ∧ s.size ≤ 100 := hdep _ (List.mem_of_getElem? (i := 5) rfl) (by kernel_rfl)
          clear hdep
          refine wpOp_step (o := _) rfl (fun K hK => ?_)
          simp only [fpairs, List.cons_append, List.nil_append, List.map_cons, List.map_nil, putAll, Act.put, List.setIfInBounds_toArray, List.set_cons_zero, List.set_cons_succ]
          obtain ⟨s5, hu5, hl5, hz5⟩ := f5; rw [hu5]
          have hcat : ¬ 9223372036854775807 < s5.size + 1 := by omega
          have hcat2 : ¬ 9223372036854775807 < 1 + s5.size := by omega
          go_simp
          refine hK _ _ ⟨.string (⟨#[91]⟩ ++ s5), by simp only [fpairs, List.cons_append, List.nil_append, List.map_cons, List.map_nil, putAll, Act.put, List.setIfInBounds_toArray, List.set_cons_zero, List.set_cons_succ, hu5], Below.refl _ _, ⟨_, rfl, by simp only [ByteArray.data_append, Array.toList_append, hl5], by simp only [ByteArray.size_append]; try simp only [show (ByteArray.mk #[91]).size = 1 from rfl, show (ByteArray.mk #[44, 32]).size = 2 from rfl, show (ByteArray.mk #[93]).size = 1 from rfl]; omega⟩, fun h => absurd (show false = true from h) Bool.false_ne_true⟩
        · intro xs wk18 hBk hdep
          have HBk18 := Lib.hid hBk; have zk18 := hBk.size; clear hBk
          have f6 : ∃ s : ByteArray, (xs 6) = .string s ∧ s.data.toList = [91] ++ decT (rndZ lo k false) k ∧ s.size ≤ 101 := hdep _ (List.mem_of_getElem? (i := 6) rfl) (by kernel_rfl)
          clear hdep
          refine wpOp_step (o := _) rfl (fun K hK => ?_)
          simp only [fpairs, List.cons_append, List.nil_append, List.map_cons, List.map_nil, putAll, Act.put, List.setIfInBounds_toArray, List.set_cons_zero, List.set_cons_succ]
          obtain ⟨s6, hu6, hl6, hz6⟩ := f6; rw [hu6]
          have hcat : ¬ 9223372036854775807 < s6.size + 2 := by omega
          have hcat2 : ¬ 9223372036854775807 < 2 + s6.size := by omega
          go_simp
          refine hK _ _ ⟨.string (s6 ++ ⟨#[44, 32]⟩), by simp only [fpairs, List.cons_append, List.nil_append, List.map_cons, List.map_nil, putAll, Act.put, List.setIfInBounds_toArray, List.set_cons_zero, List.set_cons_succ, hu6], Below.refl _ _, ⟨_, rfl, by simp only [ByteArray.data_append, Array.toList_append, hl6], by simp only [ByteArray.size_append]; try simp only [show (ByteArray.mk #[91]).size = 1 from rfl, show (ByteArray.mk #[44, 32]).size = 2 from rfl, show (ByteArray.mk #[93]).size = 1 from rfl]; omega⟩, fun h => absurd (show false = true from h) Bool.false_ne_true⟩
        · intro xs wk19 hBk hdep
          have HBk19 := Lib.hid hBk; have zk19 := hBk.size; clear hBk
          clear hdep
          refine wpOp_step (o := _) rfl (fun K hK => ?_)
          simp only [fpairs, List.cons_append, List.nil_append, List.map_cons, List.map_nil, putAll, Act.put, List.setIfInBounds_toArray, List.set_cons_zero, List.set_cons_succ]
          go_simp
          refine hK _ _ ⟨.pointer (some ⟨w.heap.size, 1, none⟩), by kernel_rfl, Below.refl _ _, rfl, fun h => absurd (show false = true from h) Bool.false_ne_true⟩
        · intro xs wk20 hBk hdep
          have HBk20 := Lib.hid hBk; have zk20 := hBk.size; clear hBk
          have f8 : (xs 8) = .pointer (some ⟨w.heap.size, 1, none⟩) := hdep _ (List.mem_of_getElem? (i := 8) rfl) (by kernel_rfl)
          clear hdep
          refine wpOp_step (o := _) rfl (fun K hK => ?_)
          simp only [fpairs, List.cons_append, List.nil_append, List.map_cons, List.map_nil, putAll, Act.put, List.setIfInBounds_toArray, List.set_cons_zero, List.set_cons_succ]
          have La_21 := CB.step La_5 HBk20.out
          have q22_0 := La_21.cell 0 rfl
          have q22_1 := La_21.cell 1 rfl
          have q22_lt := La_21.lt
          go_simp
          refine hK _ _ ⟨.int .i64 hi, by simp only [fpairs, List.cons_append, List.nil_append, List.map_cons, List.map_nil, putAll, Act.put, List.setIfInBounds_toArray, List.set_cons_zero, List.set_cons_succ, f8], Below.refl _ _, rfl, fun h => absurd (show false = true from h) Bool.false_ne_true⟩
        · intro xs wk23 hBk hdep
          have HBk23 := Lib.hid hBk; have zk23 := hBk.size; clear hBk
          clear hdep
          refine wpOp_step (o := _) rfl (fun K hK => ?_)
          simp only [fpairs, List.cons_append, List.nil_append, List.map_cons, List.map_nil, putAll, Act.put, List.setIfInBounds_toArray, List.set_cons_zero, List.set_cons_succ]
          go_simp
          refine hK _ _ ⟨.int .i64 (k : Int), by kernel_rfl, Below.refl _ _, rfl, fun h => absurd (show false = true from h) Bool.false_ne_true⟩
        · intro xs wk24 hBk hdep
          have HBk24 := Lib.hid hBk; have zk24 := hBk.size; clear hBk
          clear hdep
          refine wpOp_step (o := _) rfl (fun K hK => ?_)
          simp only [fpairs, List.cons_append, List.nil_append, List.map_cons, List.map_nil, putAll, Act.put, List.setIfInBounds_toArray, List.set_cons_zero, List.set_cons_succ]
          go_simp
          (with_reducible refine (ways_any _).mono ?_)
          rintro e wc25 ⟨hb25, b, c, rfl, hwb, hwc⟩
          refine hK _ _ ⟨.agg #[stepV b, stepV c], by kernel_rfl, hb25, ⟨b, c, rfl, hwb, hwc⟩, fun h => absurd (show false = true from h) Bool.false_ne_true⟩
        · intro xs wk26 hBk hdep
          have HBk26 := Lib.hid hBk; have zk26 := hBk.size; clear hBk
          have f11 : ∃ b c, (xs 11) = .agg #[stepV b, stepV c] ∧ Way wk26 b false ∧ Way wk26 c true := hdep _ (List.mem_of_getElem? (i := 11) rfl) (by kernel_rfl)
          clear hdep
          refine wpOp_step (o := _) rfl (fun K hK => ?_)
          simp only [fpairs, List.cons_append, List.nil_append, List.map_cons, List.map_nil, putAll, Act.put, List.setIfInBounds_toArray, List.set_cons_zero, List.set_cons_succ]
          obtain ⟨b, c, hu, hb, hc⟩ := f11; rw [hu]; have hi := way_idx1 (stepV b) (stepV c)
          go_simp
          refine hK _ _ ⟨.agg #[stepV c], by simp only [fpairs, List.cons_append, List.nil_append, List.map_cons, List.map_nil, putAll, Act.put, List.setIfInBounds_toArray, List.set_cons_zero, List.set_cons_succ, hu], Below.refl _ _, ⟨c, rfl, hc⟩, fun h => absurd (show false = true from h) Bool.false_ne_true⟩
        · intro xs wk27 hBk hdep
          have HBk27 := Lib.hid hBk; have zk27 := hBk.size; clear hBk
          have f9 : (xs 9) = .int .i64 hi := hdep _ (List.mem_of_getElem? (i := 9) rfl) (by kernel_rfl)
          have f10 : (xs 10) = .int .i64 (k : Int) := hdep _ (List.mem_of_getElem? (i := 10) rfl) (by kernel_rfl)
          have f12 : ∃ b, (xs 12) = .agg #[stepV b] ∧ Way wk27 b true := hdep _ (List.mem_of_getElem? (i := 12) rfl) (by kernel_rfl)
          clear hdep
          refine wpOp_step (o := _) rfl (fun K hK => ?_)
          simp only [fpairs, List.cons_append, List.nil_append, List.map_cons, List.map_nil, putAll, Act.put, List.setIfInBounds_toArray, List.set_cons_zero, List.set_cons_succ]
          obtain ⟨b, hu, hy⟩ := f12; rw [hu]
          go_simp
          (with_reducible refine (fixed_any _ hi HHI.out k HK.out b true hy (G.step (HB4.out.trans (HBk27.out.mono HB4.out.size)))).mono ?_)
          rintro e w2 ⟨hb2, t, rfl, ht⟩
          refine hK _ _ ⟨.string t, by simp only [fpairs, List.cons_append, List.nil_append, List.map_cons, List.map_nil, putAll, Act.put, List.setIfInBounds_toArray, List.set_cons_zero, List.set_cons_succ, f9, f10, hu], hb2, ⟨t, rfl, ht, by rw [Lib.size_eq, ht]; exact rnd_size HHI.out HK.out⟩, fun h => absurd (show false = true from h) Bool.false_ne_true⟩
        · intro xs wk29 hBk hdep
          have HBk29 := Lib.hid hBk; have zk29 := hBk.size; clear hBk
          have f7 : ∃ s : ByteArray, (xs 7) = .string s ∧ s.data.toList = [91] ++ decT (rndZ lo k false) k ++ [44, 32] ∧ s.size ≤ 103 := hdep _ (List.mem_of_getElem? (i := 7) rfl) (by kernel_rfl)
          have f13 : ∃ s : ByteArray, (xs 13) = .string s ∧ s.data.toList = decT (rndZ hi k true) k ∧ s.size ≤ 100 := hdep _ (List.mem_of_getElem? (i := 13) rfl) (by kernel_rfl)
          clear hdep
          refine wpOp_step (o := _) rfl (fun K hK => ?_)
          simp only [fpairs, List.cons_append, List.nil_append, List.map_cons, List.map_nil, putAll, Act.put, List.setIfInBounds_toArray, List.set_cons_zero, List.set_cons_succ]
          obtain ⟨s7, hu7, hl7, hz7⟩ := f7; rw [hu7]
          obtain ⟨s13, hu13, hl13, hz13⟩ := f13; rw [hu13]
          have hcat : ¬ 9223372036854775807 < s7.size + s13.size := by omega
          go_simp
          refine hK _ _ ⟨.string (s7 ++ s13), by simp only [fpairs, List.cons_append, List.nil_append, List.map_cons, List.map_nil, putAll, Act.put, List.setIfInBounds_toArray, List.set_cons_zero, List.set_cons_succ, hu7, hu13], Below.refl _ _, ⟨_, rfl, by simp only [ByteArray.data_append, Array.toList_append, hl7, hl13], by simp only [ByteArray.size_append]; omega⟩, fun h => absurd (show false = true from h) Bool.false_ne_true⟩
        · intro xs wk30 hBk hdep
          have HBk30 := Lib.hid hBk; have zk30 := hBk.size; clear hBk
          have f14 : ∃ s : ByteArray, (xs 14) = .string s ∧ s.data.toList = [91] ++ decT (rndZ lo k false) k ++ [44, 32] ++ decT (rndZ hi k true) k ∧ s.size ≤ 203 := hdep _ (List.mem_of_getElem? (i := 14) rfl) (by kernel_rfl)
          clear hdep
          refine wpOp_step (o := _) rfl (fun K hK => ?_)
          simp only [fpairs, List.cons_append, List.nil_append, List.map_cons, List.map_nil, putAll, Act.put, List.setIfInBounds_toArray, List.set_cons_zero, List.set_cons_succ]
          obtain ⟨s14, hu14, hl14, hz14⟩ := f14; rw [hu14]
          have hcat : ¬ 9223372036854775807 < s14.size + 1 := by omega
          have hcat2 : ¬ 9223372036854775807 < 1 + s14.size := by omega
          go_simp
          refine hK _ _ ⟨.string (s14 ++ ⟨#[93]⟩), by simp only [fpairs, List.cons_append, List.nil_append, List.map_cons, List.map_nil, putAll, Act.put, List.setIfInBounds_toArray, List.set_cons_zero, List.set_cons_succ, hu14], Below.refl _ _, ⟨_, rfl, by simp only [ByteArray.data_append, Array.toList_append, hl14], by simp only [ByteArray.size_append]; try simp only [show (ByteArray.mk #[91]).size = 1 from rfl, show (ByteArray.mk #[44, 32]).size = 2 from rfl, show (ByteArray.mk #[93]).size = 1 from rfl]; omega⟩, fun h => absurd (show false = true from h) Bool.false_ne_true⟩
      · exact all_nil
      · intro xs wf31 hbf hf hn hd
        have f0 : (xs 0) = .pointer (some ⟨w.heap.size, 0, none⟩) := hf _ (List.mem_of_getElem? (i := 0) rfl)
        have f1 : (xs 1) = .int .i64 lo := hf _ (List.mem_of_getElem? (i := 1) rfl)
        have f2 : (xs 2) = .int .i64 (k : Int) := hf _ (List.mem_of_getElem? (i := 2) rfl)
        have f3 : ∃ b c, (xs 3) = .agg #[stepV b, stepV c] ∧ Way wf31 b false ∧ Way wf31 c true := hf _ (List.mem_of_getElem? (i := 3) rfl)
        have f4 : ∃ b, (xs 4) = .agg #[stepV b] ∧ Way wf31 b false := hf _ (List.mem_of_getElem? (i := 4) rfl)
        have f5 : ∃ s : ByteArray, (xs 5) = .string s ∧ s.data.toList = decT (rndZ lo k false) k ∧ s.size ≤ 100 := hf _ (List.mem_of_getElem? (i := 5) rfl)
        have f6 : ∃ s : ByteArray, (xs 6) = .string s ∧ s.data.toList = [91] ++ decT (rndZ lo k false) k ∧ s.size ≤ 101 := hf _ (List.mem_of_getElem? (i := 6) rfl)
        have f7 : ∃ s : ByteArray, (xs 7) = .string s ∧ s.data.toList = [91] ++ decT (rndZ lo k false) k ++ [44, 32] ∧ s.size ≤ 103 := hf _ (List.mem_of_getElem? (i := 7) rfl)
        have f8 : (xs 8) = .pointer (some ⟨w.heap.size, 1, none⟩) := hf _ (List.mem_of_getElem? (i := 8) rfl)
        have f9 : (xs 9) = .int .i64 hi := hf _ (List.mem_of_getElem? (i := 9) rfl)
        have f10 : (xs 10) = .int .i64 (k : Int) := hf _ (List.mem_of_getElem? (i := 10) rfl)
        have f11 : ∃ b c, (xs 11) = .agg #[stepV b, stepV c] ∧ Way wf31 b false ∧ Way wf31 c true := hf _ (List.mem_of_getElem? (i := 11) rfl)
        have f12 : ∃ b, (xs 12) = .agg #[stepV b] ∧ Way wf31 b true := hf _ (List.mem_of_getElem? (i := 12) rfl)
        have f13 : ∃ s : ByteArray, (xs 13) = .string s ∧ s.data.toList = decT (rndZ hi k true) k ∧ s.size ≤ 100 := hf _ (List.mem_of_getElem? (i := 13) rfl)
        have f14 : ∃ s : ByteArray, (xs 14) = .string s ∧ s.data.toList = [91] ++ decT (rndZ lo k false) k ++ [44, 32] ++ decT (rndZ hi k true) k ∧ s.size ≤ 203 := hf _ (List.mem_of_getElem? (i := 14) rfl)
        have f15 : ∃ s : ByteArray, (xs 15) = .string s ∧ s.data.toList = [91] ++ decT (rndZ lo k false) k ++ [44, 32] ++ decT (rndZ hi k true) k ++ [93] ∧ s.size ≤ 204 := hf _ (List.mem_of_getElem? (i := 15) rfl)
        clear hf hn hd
        simp only [fpairs, List.cons_append, List.nil_append, List.map_cons, List.map_nil, putAll, Act.put, List.setIfInBounds_toArray, List.set_cons_zero, List.set_cons_succ]
        have B32 := Lib.hid hbf
        have z32 := B32.out.size
        have HB33 := Lib.hid (HB4.out.trans (B32.out.mono HB4.out.size))
        clear hbf
        generalize xs 0 = x0 at *
        generalize xs 1 = x1 at *
        generalize xs 2 = x2 at *
        generalize xs 3 = x3 at *
        generalize xs 4 = x4 at *
        generalize xs 5 = x5 at *
        generalize xs 6 = x6 at *
        generalize xs 7 = x7 at *
        generalize xs 8 = x8 at *
        generalize xs 9 = x9 at *
        generalize xs 10 = x10 at *
        generalize xs 11 = x11 at *
        generalize xs 12 = x12 at *
        generalize xs 13 = x13 at *
        generalize xs 14 = x14 at *
        generalize xs 15 = x15 at *
        obtain rfl := f0
        obtain rfl := f1
        obtain rfl := f2
        clear f3
        clear f4
        clear f5
        clear f6
        clear f7
        obtain rfl := f8
        obtain rfl := f9
        obtain rfl := f10
        clear f11
        clear f12
        clear f13
        clear f14
        obtain ⟨t, rfl, ht, -⟩ := f15
        refine Early.next (i := 16) (by kernel_rfl) rfl (fun K hK => ?_)
        go_simp
        refine hK _ _ (fun _ => trivial) ?_
        clear hK K
        (try simp only [Act.put, List.setIfInBounds_toArray, List.set_cons_zero, List.set_cons_succ])
        refine Early.next (i := 17) (by kernel_rfl) rfl (fun K hK => ?_)
        go_simp
        refine hK _ _ (fun _ => trivial) ?_
        clear hK K
        (try simp only [Act.put, List.setIfInBounds_toArray, List.set_cons_zero, List.set_cons_succ])
        refine Early.done (by kernel_rfl) ?_ _
        (try simp only [Exit.then])
        go_wp2
        go_ret2
        exact ⟨HB33.out, t, rfl, ht⟩
    · have HT := Lib.hid (show bothD lo hi d = ([], 2) by unfold bothD; rw [if_pos hs, if_neg hd]); rw [HT.out]; clear HT hs
      by_cases h1 : d < 0
      · clear hd
        go_enter Tryz.func20, Tryz.ntmps20
        go_upto_region 1 with (fail)
        rw [← hw0]; clear hw0
        have q35_0 := La.cell 0 rfl
        have q35_1 := La.cell 1 rfl
        have q35_lt := La.lt
        go_wp2_with fail
        refine (SCheck_yes _ lo hi HS.out).mono ?_
        rintro e w34 ⟨hb34, rfl⟩
        have B36 := Lib.hid hb34
        have z36 := B36.out.size
        have HB37 := Lib.hid (B0.out.trans (B36.out.mono B0.out.size))
        clear hb34
        clear q35_0 q35_1 q35_lt
        go_wp2
        go_ret2
        exact ⟨HB37.out, _, rfl, rfl⟩
      · have h2 : 12 < d := by omega
        clear hd
        go_enter Tryz.func20, Tryz.ntmps20
        go_upto_region 1 with (fail)
        rw [← hw0]; clear hw0
        have q39_0 := La.cell 0 rfl
        have q39_1 := La.cell 1 rfl
        have q39_lt := La.lt
        go_wp2_with fail
        refine (SCheck_yes _ lo hi HS.out).mono ?_
        rintro e w38 ⟨hb38, rfl⟩
        have B40 := Lib.hid hb38
        have z40 := B40.out.size
        have HB41 := Lib.hid (B0.out.trans (B40.out.mono B0.out.size))
        clear hb38
        clear q39_0 q39_1 q39_lt
        go_wp2
        go_ret2
        exact ⟨HB41.out, _, rfl, rfl⟩
  · have HT := Lib.hid (show bothD lo hi d = ([], 20) by unfold bothD; rw [if_neg hs]); rw [HT.out]; clear HT
    have HS := Lib.hid hs; clear hs
    go_enter Tryz.func20, Tryz.ntmps20
    go_upto_region 1 with (fail)
    rw [← hw0]; clear hw0
    have q43_0 := La.cell 0 rfl
    have q43_1 := La.cell 1 rfl
    have q43_lt := La.lt
    go_wp2_with fail
    refine (SCheck_no _ lo hi HS.out).mono ?_
    rintro e w42 ⟨hb42, rfl⟩
    have B44 := Lib.hid hb42
    have z44 := B44.out.size
    have HB45 := Lib.hid (B0.out.trans (B44.out.mono B0.out.size))
    clear hb42
    clear q43_0 q43_1 q43_lt
    go_wp2
    go_ret2
    exact ⟨HB45.out, _, rfl, rfl⟩
end Go.Proofs.YtfklkphoplpebaaGreatDoor
