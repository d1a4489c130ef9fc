/- The function within fix.FromDec at this translation. -/
import Derived.Test.YtfklkphoplpebaaGreatDoorFixS
namespace Go.Proofs.YtfklkphoplpebaaGreatDoor
open Go Go.RowKit Dig

/-- The powers of ten of the fixed-point numbers. -/
def pow13 : List Int := (List.range 13).map fun i => ((10 ^ i : Nat) : Int)
theorem pow13_at (d : Nat) (h : d ≤ 12) : pow13.getD d 0 = ((10 ^ d : Nat) : Int) := by
  simp [pow13, List.getD, show d < 13 by omega]
/-- They are laid. -/
def Powers (w : World) : Prop := Lib.TabIs Tryz.prog w "monocle/fix.powers" .u64 pow13
theorem Powers.step {w w' : World} (h : Powers w) (hb : Below w.heap.size w w') : Powers w' := var_keep h hb
theorem Powers.cell {w : World} (h : Powers w) (d : Nat) (hd : d ≤ 12) : w.cell? ⟨0, d, none⟩ = some (.int .u64 ((10 ^ d : Nat) : Int)) := by
  rw [← pow13_at d hd]
  exact Lib.TabIs.cell h (by kernel_rfl) d (by simp [pow13]; omega)
set_option maxRecDepth 100000 in
set_option maxHeartbeats 4000000 in
theorem FDec1_any (w : World) (b c : Nat) (n : Int) (d : Nat) (hd : d ≤ 12) (h1 : -9223372036854775808 ≤ n) (h2 : n < 9223372036854775808) (hn : n.natAbs ≤ 1048576 * 10 ^ d) (ob : One w b 3 (.int .i64 n)) (oc : One w c 3 (.int .i64 (d : Int))) (T : Powers w) (away : Bool) :
    Calls Tryz.prog 67 #[.bool away, .pointer (some ⟨b, 0, none⟩), .pointer (some ⟨c, 0, none⟩)] w fun e w' => Below w.heap.size w w' ∧ e = .returned (.tuple #[.int .u64 ((rup (n.natAbs * 4294967296) (10 ^ d) away : Nat) : Int), .bool true]) := by
  have hp := Nat.pow_le_pow_right (show 0 < 10 by omega) hd
  have hp0 := Nat.pow_pos (n := d) (show 0 < 10 by omega)
  obtain ⟨res, hres⟩ : ∃ res, res = rup (n.natAbs * 4294967296) (10 ^ d) away := ⟨_, rfl⟩
  rw [← hres]
  have KS : ∀ w' : World, Below w.heap.size w w' → (Below w.heap.size w w' ∧ w'.cell? ⟨b, 0, none⟩ = some (.int .i64 n) ∧ w'.cell? ⟨c, 0, none⟩ = some (.int .i64 (d : Int)) ∧ w'.cell? ⟨0, d, none⟩ = some (.int .u64 ((10 ^ d : Nat) : Int))) := fun w' h => ⟨h, CB.cell (cs := #[_]) (ob.step h) 0 rfl, CB.cell (cs := #[_]) (oc.step h) 0 rfl, (T.step h).cell d hd⟩
  obtain ⟨-, p0, p1, p2⟩ := KS w (Below.refl _ _)
  have hN : n.natAbs * 4294967296 / 18446744073709551616 * 18446744073709551616 + n.natAbs * 4294967296 % 18446744073709551616 = n.natAbs * 4294967296 := by omega
  have hQ : n.natAbs * 4294967296 / 10 ^ d < 9223372036854775808 := by
    rw [Nat.div_lt_iff_lt_mul hp0]
    omega
  obtain ⟨P, hP⟩ : ∃ P, P = 10 ^ d := ⟨_, rfl⟩
  rw [← hP] at hp hp0 hn hQ hres p2
  have hres' : res = rup (n.natAbs * 4294967296 / 18446744073709551616 * 18446744073709551616 + n.natAbs * 4294967296 % 18446744073709551616) P away := by rw [hN]; exact hres
  have KS' : ∀ w' : World, Below w.heap.size w w' → (Below w.heap.size w w' ∧ w'.cell? ⟨b, 0, none⟩ = some (.int .i64 n) ∧ w'.cell? ⟨c, 0, none⟩ = some (.int .i64 (d : Int)) ∧ w'.cell? ⟨0, d, none⟩ = some (.int .u64 (P : Int))) := by rw [hP]; exact KS
  obtain ⟨m, hm⟩ : ∃ m, m = n.natAbs := ⟨_, rfl⟩
  rw [← hm] at hn hN hQ hres'
  have hsz : ∀ w, Calls Tryz.prog 70 #[.int .i64 n] w fun e w' => Below w.heap.size w w' ∧ e = .returned (.int .u64 (m : Int)) := fun w => (FSize_any w n h1 h2).mono fun e w' h => ⟨by rw [h.2]; exact Below.refl _ _, by rw [hm]; exact h.1⟩
  have hpr := fun w => FProduct_any w m 4294967296 (by omega) (by omega)
  have hqu := fun w => FQuotient_any w (m * 4294967296 / 18446744073709551616) (m * 4294967296 % 18446744073709551616) P (by omega) (by omega) (by omega) (by rw [hN]; exact hQ) away
  rw [← hres'] at hqu
  obtain ⟨h, hh⟩ : ∃ h, h = m * 4294967296 / 18446744073709551616 := ⟨_, rfl⟩
  obtain ⟨l, hl⟩ : ∃ l, l = m * 4294967296 % 18446744073709551616 := ⟨_, rfl⟩
  rw [← hh, ← hl] at hqu
  replace hpr : ∀ w, Calls Tryz.prog 69 #[.int .u64 (m : Int), .int .u64 4294967296] w fun e w' => Below w.heap.size w w' ∧ e = .returned (.agg #[.int .u64 (h : Int), .int .u64 (l : Int)]) := by rw [hh, hl]; exact hpr
  have hd0 : (0 : Int) ≤ (d : Int) := by omega
  have hd1 : (d : Int) < 13 := by omega
  have HSZ := Lib.hid hsz; have HPR := Lib.hid hpr; have HQU := Lib.hid hqu; have HK := Lib.hid KS'
  clear hsz hpr hqu KS KS' hres hres' hN hQ hp hp0 hn hm hP T hh hl p0 p1 p2
  have B0 := Lib.hid (Below.refl w.heap.size w)
  have B0 := Lib.hid (Below.refl w.heap.size w)
  go_enter Tryz.func67, Tryz.ntmps67
  go_upto_region 1 with (fail)
  refine Flow.run [⟨0, 6, fun fv fw => fv = .int .i64 n⟩, ⟨1, 7, fun fv fw => fv = .int .u64 (m : Int)⟩, ⟨2, 8, fun fv fw => fv = .agg #[.int .u64 (h : Int), .int .u64 (l : Int)]⟩, ⟨3, 9, fun fv fw => fv = .int .i64 (d : Int)⟩, ⟨4, 10, fun fv fw => fv = .pointer (some ⟨0, d, none⟩)⟩, ⟨5, 11, fun fv fw => fv = .int .u64 (P : Int)⟩, ⟨6, 12, fun fv fw => fv = .bool away⟩, ⟨7, 13, fun fv fw => fv = .tuple #[.int .u64 (res : Int), .bool true]⟩, ⟨8, 14, fun fv fw => fv = .int .u64 (res : Int)⟩, ⟨9, 15, fun fv fw => fv = .bool true⟩] [] [] 2 (by kernel_rfl) (by kernel_rfl) (by kernel_rfl) (fun _ _ _ _ _ h => h) ?_ ?_ ?_ ?_
  · refine (all_cons (fun v w1 w2 h hb => h) (all_cons (fun v w1 w2 h hb => h) (all_cons (fun v w1 w2 h hb => h) (all_cons (fun v w1 w2 h hb => h) (all_cons (fun v w1 w2 h hb => h) (all_cons (fun v w1 w2 h hb => h) (all_cons (fun v w1 w2 h hb => h) (all_cons (fun v w1 w2 h hb => h) (all_cons (fun v w1 w2 h hb => h) (all_cons (fun v w1 w2 h hb => h) all_nil))))))))))
  · refine (all_cons ?_ (all_cons ?_ (all_cons ?_ (all_cons ?_ (all_cons ?_ (all_cons ?_ (all_cons ?_ (all_cons ?_ (all_cons ?_ (all_cons ?_ all_nil))))))))))
    · intro xs wk1 hBk hdep
      have HBk1 := Lib.hid hBk; have zk1 := hBk.size; clear hBk
      clear hdep
      refine wpOp_step (o := _) rfl (fun K hK => ?_)
      simp only [fpairs, List.cons_append, List.nil_append, List.map_cons, List.map_nil, putAll, Act.put, List.setIfInBounds_toArray, List.set_cons_zero, List.set_cons_succ]
      have Ln_2 := One.step ob HBk1.out
      have q3_0 := Ln_2.cell; have q3_1 := Ln_2.frozen; have q3_lt := Ln_2.lt
      go_simp
      refine hK _ _ ⟨.int .i64 n, by kernel_rfl, Below.refl _ _, rfl, fun h => absurd (show false = true from h) Bool.false_ne_true⟩
    · intro xs wk4 hBk hdep
      have HBk4 := Lib.hid hBk; have zk4 := hBk.size; clear hBk
      have f0 : (xs 0) = .int .i64 n := hdep _ (List.mem_of_getElem? (i := 0) rfl) (by kernel_rfl)
      clear hdep
      refine wpOp_step (o := _) rfl (fun K hK => ?_)
      simp only [fpairs, List.cons_append, List.nil_append, List.map_cons, List.map_nil, putAll, Act.put, List.setIfInBounds_toArray, List.set_cons_zero, List.set_cons_succ]
      go_simp
      (with_reducible refine (HSZ.out _).mono ?_)
      rintro e wc5 ⟨hb5, rfl⟩
      refine hK _ _ ⟨.int .u64 (m : Int), by simp only [fpairs, List.cons_append, List.nil_append, List.map_cons, List.map_nil, putAll, Act.put, List.setIfInBounds_toArray, List.set_cons_zero, List.set_cons_succ, f0], hb5, rfl, fun h => absurd (show false = true from h) Bool.false_ne_true⟩
    · intro xs wk6 hBk hdep
      have HBk6 := Lib.hid hBk; have zk6 := hBk.size; clear hBk
      have f1 : (xs 1) = .int .u64 (m : Int) := hdep _ (List.mem_of_getElem? (i := 1) rfl) (by kernel_rfl)
      clear hdep
      refine wpOp_step (o := _) rfl (fun K hK => ?_)
      simp only [fpairs, List.cons_append, List.nil_append, List.map_cons, List.map_nil, putAll, Act.put, List.setIfInBounds_toArray, List.set_cons_zero, List.set_cons_succ]
      go_simp
      (with_reducible refine (HPR.out _).mono ?_)
      rintro e wc7 ⟨hb7, rfl⟩
      refine hK _ _ ⟨.agg #[.int .u64 (h : Int), .int .u64 (l : Int)], by simp only [fpairs, List.cons_append, List.nil_append, List.map_cons, List.map_nil, putAll, Act.put, List.setIfInBounds_toArray, List.set_cons_zero, List.set_cons_succ, f1], hb7, rfl, fun h => absurd (show false = true from h) Bool.false_ne_true⟩
    · intro xs wk8 hBk hdep
      have HBk8 := Lib.hid hBk; have zk8 := hBk.size; clear hBk
      clear hdep
      refine wpOp_step (o := _) rfl (fun K hK => ?_)
      simp only [fpairs, List.cons_append, List.nil_append, List.map_cons, List.map_nil, putAll, Act.put, List.setIfInBounds_toArray, List.set_cons_zero, List.set_cons_succ]
      have Ld_9 := One.step oc HBk8.out
      have q10_0 := Ld_9.cell; have q10_1 := Ld_9.frozen; have q10_lt := Ld_9.lt
      go_simp
      refine hK _ _ ⟨.int .i64 (d : Int), by kernel_rfl, Below.refl _ _, rfl, fun h => absurd (show false = true from h) Bool.false_ne_true⟩
    · intro xs wk11 hBk hdep
      have HBk11 := Lib.hid hBk; have zk11 := hBk.size; clear hBk
      have f3 : (xs 3) = .int .i64 (d : Int) := hdep _ (List.mem_of_getElem? (i := 3) rfl) (by kernel_rfl)
      clear hdep
      refine wpOp_step (o := _) rfl (fun K hK => ?_)
      simp only [fpairs, List.cons_append, List.nil_append, List.map_cons, List.map_nil, putAll, Act.put, List.setIfInBounds_toArray, List.set_cons_zero, List.set_cons_succ]
      go_simp
      refine hK _ _ ⟨.pointer (some ⟨0, d, none⟩), by simp only [fpairs, List.cons_append, List.nil_append, List.map_cons, List.map_nil, putAll, Act.put, List.setIfInBounds_toArray, List.set_cons_zero, List.set_cons_succ, f3], Below.refl _ _, rfl, fun h => absurd (show false = true from h) Bool.false_ne_true⟩
    · intro xs wk12 hBk hdep
      have HBk12 := Lib.hid hBk; have zk12 := hBk.size; clear hBk
      have f4 : (xs 4) = .pointer (some ⟨0, d, none⟩) := hdep _ (List.mem_of_getElem? (i := 4) rfl) (by kernel_rfl)
      clear hdep
      refine wpOp_step (o := _) rfl (fun K hK => ?_)
      simp only [fpairs, List.cons_append, List.nil_append, List.map_cons, List.map_nil, putAll, Act.put, List.setIfInBounds_toArray, List.set_cons_zero, List.set_cons_succ]
      have pT := (HK.out _ HBk12.out).2.2.2
      go_simp
      refine hK _ _ ⟨.int .u64 (P : Int), by simp only [fpairs, List.cons_append, List.nil_append, List.map_cons, List.map_nil, putAll, Act.put, List.setIfInBounds_toArray, List.set_cons_zero, List.set_cons_succ, f4], Below.refl _ _, rfl, fun h => absurd (show false = true from h) Bool.false_ne_true⟩
    · intro xs wk13 hBk hdep
      have HBk13 := Lib.hid hBk; have zk13 := hBk.size; clear hBk
      clear hdep
      refine wpOp_step (o := _) rfl (fun K hK => ?_)
      simp only [fpairs, List.cons_append, List.nil_append, List.map_cons, List.map_nil, putAll, Act.put, List.setIfInBounds_toArray, List.set_cons_zero, List.set_cons_succ]
      go_simp
      refine hK _ _ ⟨.bool away, by kernel_rfl, Below.refl _ _, rfl, fun h => absurd (show false = true from h) Bool.false_ne_true⟩
    · intro xs wk14 hBk hdep
      have HBk14 := Lib.hid hBk; have zk14 := hBk.size; clear hBk
      have f2 : (xs 2) = .agg #[.int .u64 (h : Int), .int .u64 (l : Int)] := hdep _ (List.mem_of_getElem? (i := 2) rfl) (by kernel_rfl)
      have f5 : (xs 5) = .int .u64 (P : Int) := hdep _ (List.mem_of_getElem? (i := 5) rfl) (by kernel_rfl)
      have f6 : (xs 6) = .bool away := hdep _ (List.mem_of_getElem? (i := 6) rfl) (by kernel_rfl)
      clear hdep
      refine wpOp_step (o := _) rfl (fun K hK => ?_)
      simp only [fpairs, List.cons_append, List.nil_append, List.map_cons, List.map_nil, putAll, Act.put, List.setIfInBounds_toArray, List.set_cons_zero, List.set_cons_succ]
      go_simp
      (with_reducible refine (HQU.out _).mono ?_)
      rintro e wc15 ⟨hb15, rfl⟩
      refine hK _ _ ⟨.tuple #[.int .u64 (res : Int), .bool true], by simp only [fpairs, List.cons_append, List.nil_append, List.map_cons, List.map_nil, putAll, Act.put, List.setIfInBounds_toArray, List.set_cons_zero, List.set_cons_succ, f2, f5, f6], hb15, rfl, fun h => absurd (show false = true from h) Bool.false_ne_true⟩
    · intro xs wk16 hBk hdep
      have HBk16 := Lib.hid hBk; have zk16 := hBk.size; clear hBk
      have f7 : (xs 7) = .tuple #[.int .u64 (res : Int), .bool true] := hdep _ (List.mem_of_getElem? (i := 7) rfl) (by kernel_rfl)
      clear hdep
      refine wpOp_step (o := _) rfl (fun K hK => ?_)
      simp only [fpairs, List.cons_append, List.nil_append, List.map_cons, List.map_nil, putAll, Act.put, List.setIfInBounds_toArray, List.set_cons_zero, List.set_cons_succ]
      go_simp
      refine hK _ _ ⟨.int .u64 (res : Int), by simp only [fpairs, List.cons_append, List.nil_append, List.map_cons, List.map_nil, putAll, Act.put, List.setIfInBounds_toArray, List.set_cons_zero, List.set_cons_succ, f7], Below.refl _ _, rfl, fun h => absurd (show false = true from h) Bool.false_ne_true⟩
    · intro xs wk17 hBk hdep
      have HBk17 := Lib.hid hBk; have zk17 := hBk.size; clear hBk
      have f7 : (xs 7) = .tuple #[.int .u64 (res : Int), .bool true] := hdep _ (List.mem_of_getElem? (i := 7) rfl) (by kernel_rfl)
      clear hdep
      refine wpOp_step (o := _) rfl (fun K hK => ?_)
      simp only [fpairs, List.cons_append, List.nil_append, List.map_cons, List.map_nil, putAll, Act.put, List.setIfInBounds_toArray, List.set_cons_zero, List.set_cons_succ]
      go_simp
      refine hK _ _ ⟨.bool true, by simp only [fpairs, List.cons_append, List.nil_append, List.map_cons, List.map_nil, putAll, Act.put, List.setIfInBounds_toArray, List.set_cons_zero, List.set_cons_succ, f7], Below.refl _ _, rfl, fun h => absurd (show false = true from h) Bool.false_ne_true⟩
  · exact all_nil
  · intro xs wf18 hbf hf hn hd
    have f0 : (xs 0) = .int .i64 n := hf _ (List.mem_of_getElem? (i := 0) rfl)
    have f1 : (xs 1) = .int .u64 (m : Int) := hf _ (List.mem_of_getElem? (i := 1) rfl)
    have f2 : (xs 2) = .agg #[.int .u64 (h : Int), .int .u64 (l : Int)] := hf _ (List.mem_of_getElem? (i := 2) rfl)
    have f3 : (xs 3) = .int .i64 (d : Int) := hf _ (List.mem_of_getElem? (i := 3) rfl)
    have f4 : (xs 4) = .pointer (some ⟨0, d, none⟩) := hf _ (List.mem_of_getElem? (i := 4) rfl)
    have f5 : (xs 5) = .int .u64 (P : Int) := hf _ (List.mem_of_getElem? (i := 5) rfl)
    have f6 : (xs 6) = .bool away := hf _ (List.mem_of_getElem? (i := 6) rfl)
    have f7 : (xs 7) = .tuple #[.int .u64 (res : Int), .bool true] := hf _ (List.mem_of_getElem? (i := 7) rfl)
    have f8 : (xs 8) = .int .u64 (res : Int) := hf _ (List.mem_of_getElem? (i := 8) rfl)
    have f9 : (xs 9) = .bool true := hf _ (List.mem_of_getElem? (i := 9) rfl)
    clear hf hn hd
    simp only [fpairs, List.cons_append, List.nil_append, List.map_cons, List.map_nil, putAll, Act.put, List.setIfInBounds_toArray, List.set_cons_zero, List.set_cons_succ]
    have B19 := Lib.hid hbf
    have z19 := B19.out.size
    have HB20 := Lib.hid (B0.out.trans (B19.out.mono B0.out.size))
    clear hbf
    generalize xs 0 = x0 at *
    generalize xs 1 = x1 at *
    generalize xs 2 = x2 at *
    generalize xs 3 = x3 at *
    generalize xs 4 = x4 at *
    generalize xs 5 = x5 at *
    generalize xs 6 = x6 at *
    generalize xs 7 = x7 at *
    generalize xs 8 = x8 at *
    generalize xs 9 = x9 at *
    obtain rfl := f0
    obtain rfl := f1
    obtain rfl := f2
    obtain rfl := f3
    obtain rfl := f4
    obtain rfl := f5
    obtain rfl := f6
    obtain rfl := f7
    obtain rfl := f8
    obtain rfl := f9
    refine Early.next (i := 10) (by kernel_rfl) rfl (fun K hK => ?_)
    go_simp
    refine hK _ _ (fun _ => trivial) ?_
    clear hK K
    (try simp only [Act.put, List.setIfInBounds_toArray, List.set_cons_zero, List.set_cons_succ])
    refine Early.next (i := 11) (by kernel_rfl) rfl (fun K hK => ?_)
    go_simp
    refine hK _ _ (fun _ => trivial) ?_
    clear hK K
    (try simp only [Act.put, List.setIfInBounds_toArray, List.set_cons_zero, List.set_cons_succ])
    refine Early.done (by kernel_rfl) ?_ _
    (try simp only [Exit.then])
    go_wp2
    go_ret2
    exact ⟨HB20.out, rfl⟩
end Go.Proofs.YtfklkphoplpebaaGreatDoor
