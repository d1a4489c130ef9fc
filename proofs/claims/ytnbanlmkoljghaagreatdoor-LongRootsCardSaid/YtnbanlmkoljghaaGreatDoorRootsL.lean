/- The law LongRoots (written by gen_roots.py). -/
import Derived.Test.YtnbanlmkoljghaaGreatDoorLawC
import Derived.Test.YtnbanlmkoljghaaGreatDoorRefb
namespace Go.Proofs.YtnbanlmkoljghaaGreatDoor
open Go Go.RowKit Dig

theorem lv_abs {w : World} {B : Nat} {n : Bool} {A : Option Addr} {l c : Nat} {z : Int} (h : LV w B (.agg #[.bool n, .slice A l c]) z) : LV w B (.agg #[.bool false, .slice A l c]) (z.natAbs : Int) := by
  obtain ⟨h1, h2, h3⟩ := h.is
  refine ⟨_, ?_, h3⟩
  rw [show decide (((z.natAbs : Nat) : Int) < 0) = false from decide_eq_false (by omega)]
theorem lv_lr {w : World} {B : Nat} {n : Bool} {A : Option Addr} {l c : Nat} {z : Int} (h : LV w B (.agg #[.bool n, .slice A l c]) z) : LR w B (.agg #[.bool n, .slice A l c]) n (ni (dig z.natAbs)) := by
  obtain ⟨s, e, hs⟩ := h
  injection e with e
  simp at e
  exact ⟨s, by rw [e.2], hs⟩
theorem one_len : (dig (1 : Int).natAbs).length ≤ 100000 := Nat.le_trans (dig_len_le.2 (show 1 < bp 1 by decide)) (by omega)

set_option maxRecDepth 100000 in
set_option maxHeartbeats 8000000 in
theorem LongRoots_any (w : World) (G : Glob w) (na : Bool) (sa : Value) (la : List Int) (ha : RI w w.heap.size sa la) (nd : Bool) (ld : Int) (sd : Value) (wd : List Nat) (hd0 : 0 ≤ ld) (hd1 : ld ≤ 255) (hd : RW w w.heap.size sd wd) :
    Calls Tryz.prog 5 #[.agg #[.bool na, sa], .agg #[.bool nd, .int .u8 ld, sd]] w fun e w' => Below w.heap.size w w' ∧ e = .returned (.bool true) := by
  obtain ⟨D0, hD⟩ : ∃ z, sgn nd (val (draftDs 0 3 wd)) = z := ⟨_, rfl⟩
  have hlD0 : Hid (Len 3 D0) := Lib.hid (by rw [← hD, Len]; exact draft_fit (by omega))
  replace hD := Lib.hid hD
  obtain ⟨Y0, hY⟩ : ∃ z, sgn nd (val (draftDs (ld.toNat % 8) 40 wd)) = z := ⟨_, rfl⟩
  replace hY := Lib.hid hY
  obtain ⟨P0, c0, rfl, -⟩ := ha.at
  obtain ⟨k0, hk0⟩ : ∃ k, k = la.length := ⟨_, rfl⟩
  rw [← hk0] at ha ⊢
  have HK0 := Lib.hid hk0; clear hk0
  obtain ⟨w0, hw0⟩ : ∃ w0 : World, w0 = (w.alloc (.cells #[.bool na, .slice P0 k0 c0] 24)).alloc (.cells #[.bool nd, .int .u8 ld, sd] 27) := ⟨_, rfl⟩
  have B0 := Lib.hid (show Below w.heap.size w w0 by rw [hw0]; (repeat' (first | exact Below.refl _ _ | refine Below.drew ?_ | refine Below.alloc ?_ (by first | exact Nat.le_refl _ | (simp; done) | (simp; omega)) _)))
  have z0 : w.heap.size + 2 ≤ w0.heap.size := by rw [hw0]; simp
  have La : LB w0 w.heap.size (.bool na) (.slice P0 k0 c0) := by rw [hw0]; (repeat (first | (refine LB.new' ?_; simp; done) | refine LB.alloc ?_ _))
  have Ld : CB w0 (w.heap.size + 1) 27 #[.bool nd, .int .u8 ld, sd] := by rw [hw0]; have h := CB.new (w.alloc (.cells #[.bool na, .slice P0 k0 c0] 24)) 27 #[.bool nd, .int .u8 ld, sd]; simpa using h
  have HA := Lib.hid (LR.step (LR.of (n := na) ha) B0.out); have HSD := Lib.hid (RW.step hd B0.out)
  clear ha hd
  subst hw0
  go_enter Tryz.func5, Tryz.ntmps5
  go_wp2_with fail
  refine (works_any _ (G.step B0.out)).mono ?_
  rintro e w1 ⟨hb1, rfl⟩
  have B2 := Lib.hid hb1
  have z2 := B2.out.size
  have HB3 := Lib.hid (B0.out.trans (B2.out.mono B0.out.size))
  clear hb1
  have Ldraft_5 := CB.step Ld B2.out
  have q6_0 := Ldraft_5.cell 0 rfl
  have q6_1 := Ldraft_5.cell 1 rfl
  have q6_2 := Ldraft_5.cell 2 rfl
  have q6_lt := Ldraft_5.lt
  go_wp2_with fail
  have Hsd_7 := Lib.hid (RW.step HSD.out B2.out)
  refine (Short_any _ nd ld _ wd hd0 hd1 Hsd_7.out).mono ?_
  rintro e w4 ⟨hb4, v3, rfl, hv3⟩
  have B8 := Lib.hid hb4
  have z8 := B8.out.size
  have HB9 := Lib.hid (HB3.out.trans (B8.out.mono HB3.out.size))
  clear hb4
  clear q6_0 q6_1 q6_2 q6_lt
  rw [hD.out] at hv3
  obtain ⟨n10, Ad10, l10, c10, rfl, hv10⟩ := hv3.opened
  have Hx0_10 := Lib.hid hv10
  clear hv3 hv10
  have habs := Lib.hid (lv_abs Hx0_10.out)
  go_upto_region 5 with (fail)
  obtain ⟨w11, hW11⟩ : ∃ w11 : World, w11 = w4.alloc (.cells #[.bool false, .slice Ad10 l10 c10] 24) := ⟨_, rfl⟩
  rw [← hW11]
  have hb11 : Below w4.heap.size w4 w11 := by rw [hW11]; (repeat' (first | exact Below.refl _ _ | refine Below.drew ?_ | refine Below.alloc ?_ (by first | exact Nat.le_refl _ | (simp; done) | (simp; omega)) _))
  have Lx : LB w11 (w4.heap.size) (.bool false) (.slice Ad10 l10 c10) := by rw [hW11]; (repeat (first | (refine LB.new' ?_; simp; done) | refine LB.alloc ?_ _))
  have za11 : w4.heap.size + 1 ≤ w11.heap.size := by rw [hW11]; simp
  have B12 := Lib.hid hb11
  have z12 := B12.out.size
  have HB13 := Lib.hid (HB9.out.trans (B12.out.mono HB9.out.size))
  clear hb11 hW11
  obtain ⟨Q, hQ⟩ : ∃ Q : Int, Q = (D0.natAbs : Int) * (D0.natAbs : Int) := ⟨_, rfl⟩
  have hlQ : Hid (Len 6 Q) := Lib.hid (by rw [hQ]; have h : Len 3 (D0.natAbs : Int) := hlD0.out.le (by omega); exact h.mul h)
  have HQ := Lib.hid hQ; clear hQ
  have q15_0 := Lx.cell0
  have q15_1 := Lx.cell1
  have q15_2 := Lx.frozen 0
  have q15_3 := Lx.frozen 1
  have q15_lt := Lx.lt
  go_wp2_with fail
  have Hx_16 := Lib.hid (LV.step habs.out B12.out)
  refine (RProd_any _ _ _ (D0.natAbs : Int) (D0.natAbs : Int) Hx_16.out Hx_16.out (by have h : Len 3 (D0.natAbs : Int) := hlD0.out.le (by omega); unfold Len at h; omega) (by have h : Len 3 (D0.natAbs : Int) := hlD0.out.le (by omega); unfold Len at h; omega)).mono ?_
  rintro e w14 ⟨hb14, v5, rfl, hv5⟩
  have B17 := Lib.hid hb14
  have z17 := B17.out.size
  have HB18 := Lib.hid (HB13.out.trans (B17.out.mono HB13.out.size))
  clear hb14
  clear q15_0 q15_1 q15_2 q15_3 q15_lt
  rw [← HQ.out] at hv5
  obtain ⟨n19, Ad19, l19, c19, rfl, hv19⟩ := hv5.opened
  have Hsq_19 := Lib.hid hv19
  clear hv5 hv19
  go_upto_region 6 with (fail)
  obtain ⟨w20, hW20⟩ : ∃ w20 : World, w20 = (w14.alloc (.cells #[.bool n19, .slice Ad19 l19 c19] 24)) := ⟨_, rfl⟩
  rw [← hW20]
  have hb20 : Below w14.heap.size w14 w20 := by rw [hW20]; (repeat' (first | exact Below.refl _ _ | refine Below.drew ?_ | refine Below.alloc ?_ (by first | exact Nat.le_refl _ | (simp; done) | (simp; omega)) _))
  have Lsq_20 : LB w20 (w14.heap.size) (.bool n19) (.slice Ad19 l19 c19) := by rw [hW20]; (repeat (first | (refine LB.new' ?_; simp; done) | refine LB.alloc ?_ _))
  have za20 : w14.heap.size + 1 ≤ w20.heap.size := by rw [hW20]; simp
  have B21 := Lib.hid hb20
  have z21 := B21.out.size
  have HB22 := Lib.hid (HB18.out.trans (B21.out.mono HB18.out.size))
  clear hb20 hW20
  have P1_3_23 := Lib.hid (B2.out.trans (B8.out.mono B2.out.size))
  have P1_4_24 := Lib.hid (P1_3_23.out.trans (B12.out.mono P1_3_23.out.size))
  have P1_5_25 := Lib.hid (P1_4_24.out.trans (B17.out.mono P1_4_24.out.size))
  have P1_6_26 := Lib.hid (P1_5_25.out.trans (B21.out.mono P1_5_25.out.size))
  have La_27 := LB.step La P1_6_26.out
  have P2_4_29 := Lib.hid (B8.out.trans (B12.out.mono B8.out.size))
  have P2_5_30 := Lib.hid (P2_4_29.out.trans (B17.out.mono P2_4_29.out.size))
  have P2_6_31 := Lib.hid (P2_5_30.out.trans (B21.out.mono P2_5_30.out.size))
  have Ldraft_28 := CB.step Ldraft_5 P2_6_31.out
  have Ha_32 := Lib.hid (LR.step HA.out P1_6_26.out)
  have Hsd_33 := Lib.hid (RW.step Hsd_7.out P2_6_31.out)
  have Hsq_34 := Lib.hid (LV.step Hsq_19.out B21.out)
  have KS : ∀ w' : World, Below w20.heap.size w20 w' → (Below w20.heap.size w20 w' ∧ w'.cell? ⟨w.heap.size, 0, none⟩ = some (.bool na) ∧ w'.cell? ⟨w.heap.size, 1, none⟩ = some (.slice P0 k0 c0) ∧ w'.cell? ⟨w.heap.size + 1, 0, none⟩ = some (.bool nd) ∧ w'.cell? ⟨w.heap.size + 1, 1, none⟩ = some (.int .u8 ld) ∧ w'.cell? ⟨w.heap.size + 1, 2, none⟩ = some (sd) ∧ w'.cell? ⟨w14.heap.size, 0, none⟩ = some (.bool n19) ∧ w'.cell? ⟨w14.heap.size, 1, none⟩ = some (.slice Ad19 l19 c19)) := fun w' h => ⟨h, (LB.step La_27 h).cell0, (LB.step La_27 h).cell1, (CB.step Ldraft_28 h).cell 0 rfl, (CB.step Ldraft_28 h).cell 1 rfl, (CB.step Ldraft_28 h).cell 2 rfl, (LB.step Lsq_20 h).cell0, (LB.step Lsq_20 h).cell1⟩
  have KB : ∀ w' : World, (Below w20.heap.size w20 w' ∧ w'.cell? ⟨w.heap.size, 0, none⟩ = some (.bool na) ∧ w'.cell? ⟨w.heap.size, 1, none⟩ = some (.slice P0 k0 c0) ∧ w'.cell? ⟨w.heap.size + 1, 0, none⟩ = some (.bool nd) ∧ w'.cell? ⟨w.heap.size + 1, 1, none⟩ = some (.int .u8 ld) ∧ w'.cell? ⟨w.heap.size + 1, 2, none⟩ = some (sd) ∧ w'.cell? ⟨w14.heap.size, 0, none⟩ = some (.bool n19) ∧ w'.cell? ⟨w14.heap.size, 1, none⟩ = some (.slice Ad19 l19 c19)) → Below w20.heap.size w20 w' := fun w' h => h.1
  obtain ⟨-, p0, p1, p2, p3, p4, p5, p6⟩ := KS w20 (Below.refl _ _)
  have tok1 : True := trivial
  have tok2 : True := trivial
  have tok3 : True := trivial
  have tok4 : True := trivial
  have tok5 : True := trivial
  have tok6 : True := trivial
  have HSQ := Lib.hid (Hsq_34.out); have HAA := Lib.hid (Ha_32.out); have HSDD := Lib.hid (Hsd_33.out); have HBASE := Lib.hid (HB22.out)
  go_region_held3 (fun w' => Below w20.heap.size w20 w' ∧ w'.cell? ⟨w.heap.size, 0, none⟩ = some (.bool na) ∧ w'.cell? ⟨w.heap.size, 1, none⟩ = some (.slice P0 k0 c0) ∧ w'.cell? ⟨w.heap.size + 1, 0, none⟩ = some (.bool nd) ∧ w'.cell? ⟨w.heap.size + 1, 1, none⟩ = some (.int .u8 ld) ∧ w'.cell? ⟨w.heap.size + 1, 2, none⟩ = some (sd) ∧ w'.cell? ⟨w14.heap.size, 0, none⟩ = some (.bool n19) ∧ w'.cell? ⟨w14.heap.size, 1, none⟩ = some (.slice Ad19 l19 c19)) (first
    | (refine KS _ ?_; repeat (first | with_reducible exact KU.out | with_reducible exact Below.refl _ _ | with_reducible refine below_drew1 ?_))
    | go_keep) (first
    | (go_at_call 18; clear tok1; ((with_reducible refine (own_any _ _ na la (by exact LR.step HAA.out (KB _ (by assumption)))).mono ?_); rintro e u1 ⟨hbu, v11, rfl, hv11⟩; obtain ⟨A11, k11, c11, rfl, hv11⟩ := hv11.opened; have HO := Lib.hid hv11; have KU' := Lib.hid (Below.trans (KB _ (by assumption)) (hbu.mono (KB _ (by assumption)).size)); have KU := KU'; clear KU'; clear hbu hv11))
    | (go_at_call 29; clear tok2; ((with_reducible refine (Long_any _ nd ld _ wd hd0 hd1 (by exact RW.step HSDD.out (KB _ (by assumption)))).mono ?_); rintro e u2 ⟨hbu, v12, rfl, hv12⟩; rw [hY.out] at hv12; obtain ⟨n12, A12, l12, c12, rfl, hv12⟩ := hv12.opened; have HY := Lib.hid hv12; have HO2 := Lib.hid (LR.step (by repeat (first | with_reducible exact HO.out | with_reducible refine LR.drew1 ?_)) hbu); have KU' := Lib.hid (Below.trans (KB _ (by assumption)) (hbu.mono (KB _ (by assumption)).size)); clear KU; have KU := KU'; clear KU'; clear hbu hv12))
    | (go_at_call 31; clear tok3; ((with_reducible refine (ROf_any _ 1 (by decide) (by decide)).mono ?_); rintro e u3 ⟨hbu, v13, rfl, hv13⟩; obtain ⟨n13, A13, l13, c13, rfl, hv13⟩ := hv13.opened; have HO1 := Lib.hid hv13; have HO3 := Lib.hid (LR.step (by repeat (first | with_reducible exact HO2.out | with_reducible refine LR.drew1 ?_)) hbu); have HY3 := Lib.hid (LV.step (by repeat (first | with_reducible exact HY.out | with_reducible refine LV.drew1 ?_)) hbu); have KU' := Lib.hid (Below.trans (KB _ (by assumption)) (hbu.mono (KB _ (by assumption)).size)); clear KU; have KU := KU'; clear KU'; clear hbu hv13))
    | (go_at_call 30; clear tok4; ((with_reducible refine (RSum_any _ _ _ Q 1 (by exact LV.step HSQ.out (KB _ (by assumption))) (by repeat (first | with_reducible exact HO1.out | with_reducible refine LV.drew1 ?_)) (by have h := hlQ.out; unfold Len at h; omega) one_len).mono ?_); rintro e u4 ⟨hbu, v14, rfl, hv14⟩; obtain ⟨n14, A14, l14, c14, rfl, hv14⟩ := hv14.opened; have HS := Lib.hid hv14; have HO4 := Lib.hid (LR.step (by repeat (first | with_reducible exact HO3.out | with_reducible refine LR.drew1 ?_)) hbu); have HY4 := Lib.hid (LV.step (by repeat (first | with_reducible exact HY3.out | with_reducible refine LV.drew1 ?_)) hbu); have KU' := Lib.hid (Below.trans (KB _ (by assumption)) (hbu.mono (KB _ (by assumption)).size)); clear KU; have KU := KU'; clear KU'; clear hbu hv14))
    | (go_at_call 31; clear tok5; ((with_reducible refine (ROf_any _ 1 (by decide) (by decide)).mono ?_); rintro e u5 ⟨hbu, v15, rfl, hv15⟩; obtain ⟨n15, A15, l15, c15, rfl, hv15⟩ := hv15.opened; have HO6 := Lib.hid hv15; have HO5 := Lib.hid (LR.step (by repeat (first | with_reducible exact HO4.out | with_reducible refine LR.drew1 ?_)) hbu); have HY5 := Lib.hid (LV.step (by repeat (first | with_reducible exact HY4.out | with_reducible refine LV.drew1 ?_)) hbu); have HS5 := Lib.hid (LV.step (by repeat (first | with_reducible exact HS.out | with_reducible refine LV.drew1 ?_)) hbu); have KU' := Lib.hid (Below.trans (KB _ (by assumption)) (hbu.mono (KB _ (by assumption)).size)); clear KU; have KU := KU'; clear KU'; clear hbu hv15))
    | (go_at_call 32; clear tok6; ((with_reducible refine (RDiff_any _ _ _ Q 1 (by exact LV.step HSQ.out (KB _ (by assumption))) (by repeat (first | with_reducible exact HO6.out | with_reducible refine LV.drew1 ?_)) (by have h := hlQ.out; unfold Len at h; omega) one_len).mono ?_); rintro e u6 ⟨hbu, v16, rfl, hv16⟩; obtain ⟨n16, A16, l16, c16, rfl, hv16⟩ := hv16.opened; have HDD := Lib.hid hv16; have HO7 := Lib.hid (LR.step (by repeat (first | with_reducible exact HO5.out | with_reducible refine LR.drew1 ?_)) hbu); have HY7 := Lib.hid (LV.step (by repeat (first | with_reducible exact HY5.out | with_reducible refine LV.drew1 ?_)) hbu); have HS7 := Lib.hid (LV.step (by repeat (first | with_reducible exact HS5.out | with_reducible refine LV.drew1 ?_)) hbu); have KU' := Lib.hid (Below.trans (KB _ (by assumption)) (hbu.mono (KB _ (by assumption)).size)); clear KU; have KU := KU'; clear KU'; clear hbu hv16)))
  rename_i hheld
  simp only [Exit.then]
  have B35 := Lib.hid KU.out
  have z35 := B35.out.size
  have HB36 := Lib.hid (HB22.out.trans (B35.out.mono HB22.out.size))
  have HQ7 := Lib.hid (LV.step HSQ.out KU.out)
  have HV1 := Lib.hid (lv_lr HY7.out)
  have HV2 := Lib.hid (lv_lr HQ7.out)
  have HV3 := Lib.hid (lv_lr HS7.out)
  have HV4 := Lib.hid (lv_lr HDD.out)
  clear HY7 HS7 HDD HQ7 HSQ HAA HSDD HBASE hheld KU KS KB hlQ HQ hY hD
  have i0 : ∀ w : World, (Instr.index 47 (.agg #[.bool na, .slice A11 k11 c11, .bool n12, .slice A12 l12 c12, .bool n19, .slice Ad19 l19 c19, .bool n14, .slice A14 l14 c14, .bool n16, .slice A16 l16 c16]) (.int .i64 0)).run Tryz.prog w = .ok (.agg #[.bool na, .slice A11 k11 c11]) w := fun _ => by kernel_rfl
  have i1 : ∀ w : World, (Instr.index 47 (.agg #[.bool na, .slice A11 k11 c11, .bool n12, .slice A12 l12 c12, .bool n19, .slice Ad19 l19 c19, .bool n14, .slice A14 l14 c14, .bool n16, .slice A16 l16 c16]) (.int .i64 1)).run Tryz.prog w = .ok (.agg #[.bool n12, .slice A12 l12 c12]) w := fun _ => by kernel_rfl
  have i2 : ∀ w : World, (Instr.index 47 (.agg #[.bool na, .slice A11 k11 c11, .bool n12, .slice A12 l12 c12, .bool n19, .slice Ad19 l19 c19, .bool n14, .slice A14 l14 c14, .bool n16, .slice A16 l16 c16]) (.int .i64 2)).run Tryz.prog w = .ok (.agg #[.bool n19, .slice Ad19 l19 c19]) w := fun _ => by kernel_rfl
  have i3 : ∀ w : World, (Instr.index 47 (.agg #[.bool na, .slice A11 k11 c11, .bool n12, .slice A12 l12 c12, .bool n19, .slice Ad19 l19 c19, .bool n14, .slice A14 l14 c14, .bool n16, .slice A16 l16 c16]) (.int .i64 3)).run Tryz.prog w = .ok (.agg #[.bool n14, .slice A14 l14 c14]) w := fun _ => by kernel_rfl
  have i4 : ∀ w : World, (Instr.index 47 (.agg #[.bool na, .slice A11 k11 c11, .bool n12, .slice A12 l12 c12, .bool n19, .slice Ad19 l19 c19, .bool n14, .slice A14 l14 c14, .bool n16, .slice A16 l16 c16]) (.int .i64 4)).run Tryz.prog w = .ok (.agg #[.bool n16, .slice A16 l16 c16]) w := fun _ => by kernel_rfl
  have HENT := Lib.hid HB36.out
  go_wp2
  go_loopw [33] (fun i wr => ∃ j : Nat, j ≤ 5 ∧ i = .int .i64 j ∧ Hid (Below u6.heap.size u6 wr)) (fun i _ => 5 - (intOf i).toNat)
  case atStart => exact ⟨0, by omega, rfl, Lib.hid (Below.refl _ _)⟩
  case round =>
    obtain ⟨j, hj, rfl, HBI⟩ := hrel
    have zi := HBI.out.size
    have HBAS := Lib.hid (HENT.out.trans (HBI.out.mono HENT.out.size))
    have hj3 : j = 0 ∨ j = 1 ∨ j = 2 ∨ j = 3 ∨ j = 4 ∨ j = 5 := by omega
    rcases hj3 with rfl | rfl | rfl | rfl | rfl | rfl
    · skip
      rw [show ((0 : Nat) : Int) = 0 from rfl]
      go_upto_region 9 with (fail)
      obtain ⟨w37, hW37⟩ : ∃ w37 : World, w37 = (wr.alloc (.cells #[.bool na, .slice A11 k11 c11] 24)) := ⟨_, rfl⟩
      rw [← hW37]
      have hb37 : Below wr.heap.size wr w37 := by rw [hW37]; (repeat' (first | exact Below.refl _ _ | refine Below.drew ?_ | refine Below.alloc ?_ (by first | exact Nat.le_refl _ | (simp; done) | (simp; omega)) _))
      have Lx_37 : LB w37 (wr.heap.size) (.bool na) (.slice A11 k11 c11) := by rw [hW37]; (repeat (first | (refine LB.new' ?_; simp; done) | refine LB.alloc ?_ _))
      have za37 : wr.heap.size + 1 ≤ w37.heap.size := by rw [hW37]; simp
      have B38 := Lib.hid hb37
      have z38 := B38.out.size
      have HB39 := Lib.hid (HBAS.out.trans (B38.out.mono HBAS.out.size))
      clear hb37 hW37
      have q40_0 := Lx_37.cell0
      have q40_1 := Lx_37.cell1
      have q40_2 := Lx_37.frozen 0
      have q40_3 := Lx_37.frozen 1
      have q40_lt := Lx_37.lt
      obtain ⟨⟨z0, z0e⟩, hrz0⟩ : ∃ r : Int × Int, r = A1 sqrtZ (numOf na (la.take 60)) := ⟨_, rfl⟩
      have HRz0 := Lib.hid hrz0; clear hrz0
      go_wp2_with fail
      have P7_9_43 := Lib.hid (HBI.out.trans (B38.out.mono HBI.out.size))
      have Ho0_44 := Lib.hid (LR.step HO7.out P7_9_43.out)
      refine (Sqrt_any _ _ _ _ Ho0_44.out).mono ?_
      rintro e w42 ⟨hb42, hret41⟩
      have B45 := Lib.hid hb42
      have z45 := B45.out.size
      have HB46 := Lib.hid (HB39.out.trans (B45.out.mono HB39.out.size))
      clear hb42
      clear q40_0 q40_1 q40_2 q40_3 q40_lt
      rw [← HRz0.out] at hret41; obtain ⟨v41, rfl, hv41⟩ := hret41; replace hv41 : LV w42 w42.heap.size v41 z0 := hv41
      obtain ⟨n47, Ad47, l47, c47, rfl, hv47⟩ := hv41.opened
      have Hq_47 := Lib.hid hv47
      clear hv41 hv47
      have Lx_48 := LB.step Lx_37 B45.out
      have q49_0 := Lx_48.cell0
      have q49_1 := Lx_48.cell1
      have q49_2 := Lx_48.frozen 0
      have q49_3 := Lx_48.frozen 1
      have q49_lt := Lx_48.lt
      go_wp2_with fail
      obtain ⟨w50, hW50⟩ : ∃ w50 : World, w50 = (w42.alloc (.cells #[.bool n47, .slice Ad47 l47 c47] 24)) := ⟨_, rfl⟩
      rw [← hW50]
      have hb50 : Below w42.heap.size w42 w50 := by rw [hW50]; (repeat' (first | exact Below.refl _ _ | refine Below.drew ?_ | refine Below.alloc ?_ (by first | exact Nat.le_refl _ | (simp; done) | (simp; omega)) _))
      have Lq_50 : LB w50 (w42.heap.size) (.bool n47) (.slice Ad47 l47 c47) := by rw [hW50]; (repeat (first | (refine LB.new' ?_; simp; done) | refine LB.alloc ?_ _))
      have za50 : w42.heap.size + 1 ≤ w50.heap.size := by rw [hW50]; simp
      have B51 := Lib.hid hb50
      have z51 := B51.out.size
      have HB52 := Lib.hid (HB46.out.trans (B51.out.mono HB46.out.size))
      clear hb50 hW50
      clear q49_0 q49_1 q49_2 q49_3 q49_lt
      have P9_11_55 := Lib.hid (B45.out.trans (B51.out.mono B45.out.size))
      have Ho0_56 := Lib.hid (LR.step Ho0_44.out P9_11_55.out)
      refine (RSqrt_any _ _ _ _ Ho0_56.out).mono ?_
      rintro e w54 ⟨hb54, hret53⟩
      have B57 := Lib.hid hb54
      have z57 := B57.out.size
      have HB58 := Lib.hid (HB52.out.trans (B57.out.mono HB52.out.size))
      clear hb54
      rw [← HRz0.out] at hret53; obtain ⟨v53, rfl, hv53⟩ := hret53; replace hv53 : LV w54 w54.heap.size v53 z0 := hv53
      obtain ⟨n59, Ad59, l59, c59, rfl, hv59⟩ := hv53.opened
      have Hr_59 := Lib.hid hv59
      clear hv53 hv59
      have Lq_60 := LB.step Lq_50 B57.out
      have q61_0 := Lq_60.cell0
      have q61_1 := Lq_60.cell1
      have q61_2 := Lq_60.frozen 0
      have q61_3 := Lq_60.frozen 1
      have q61_lt := Lq_60.lt
      go_wp2_with fail
      obtain ⟨w62, hW62⟩ : ∃ w62 : World, w62 = (w54.alloc (.cells #[.bool n59, .slice Ad59 l59 c59] 24)) := ⟨_, rfl⟩
      rw [← hW62]
      have hb62 : Below w54.heap.size w54 w62 := by rw [hW62]; (repeat' (first | exact Below.refl _ _ | refine Below.drew ?_ | refine Below.alloc ?_ (by first | exact Nat.le_refl _ | (simp; done) | (simp; omega)) _))
      have Lr_62 : LB w62 (w54.heap.size) (.bool n59) (.slice Ad59 l59 c59) := by rw [hW62]; (repeat (first | (refine LB.new' ?_; simp; done) | refine LB.alloc ?_ _))
      have za62 : w54.heap.size + 1 ≤ w62.heap.size := by rw [hW62]; simp
      have B63 := Lib.hid hb62
      have z63 := B63.out.size
      have HB64 := Lib.hid (HB58.out.trans (B63.out.mono HB58.out.size))
      clear hb62 hW62
      clear q61_0 q61_1 q61_2 q61_3 q61_lt
      have Lq_66 := LB.step Lq_60 B63.out
      have q67_0 := Lq_66.cell0
      have q67_1 := Lq_66.cell1
      have q67_2 := Lq_66.frozen 0
      have q67_3 := Lq_66.frozen 1
      have q67_lt := Lq_66.lt
      have q68_0 := Lr_62.cell0
      have q68_1 := Lr_62.cell1
      have q68_2 := Lr_62.frozen 0
      have q68_3 := Lr_62.frozen 1
      have q68_lt := Lr_62.lt
      go_wp2_with fail
      have P10_12_69 := Lib.hid (B51.out.trans (B57.out.mono B51.out.size))
      have P10_13_70 := Lib.hid (P10_12_69.out.trans (B63.out.mono P10_12_69.out.size))
      have Hq_71 := Lib.hid (LV.step Hq_47.out P10_13_70.out)
      have Hr_72 := Lib.hid (LV.step Hr_59.out B63.out)
      refine (alike_yes _ _ _ z0 z0e Hq_71.out Hr_72.out).mono ?_
      rintro e w65 ⟨hb65, rfl⟩
      have B73 := Lib.hid hb65
      have z73 := B73.out.size
      have HB74 := Lib.hid (HB64.out.trans (B73.out.mono HB64.out.size))
      clear hb65
      clear q67_0 q67_1 q67_2 q67_3 q67_lt q68_0 q68_1 q68_2 q68_3 q68_lt
      have P7_10_75 := Lib.hid (P7_9_43.out.trans (B45.out.mono P7_9_43.out.size))
      have P7_11_76 := Lib.hid (P7_10_75.out.trans (B51.out.mono P7_10_75.out.size))
      have P7_12_77 := Lib.hid (P7_11_76.out.trans (B57.out.mono P7_11_76.out.size))
      have P7_13_78 := Lib.hid (P7_12_77.out.trans (B63.out.mono P7_12_77.out.size))
      have P7_14_79 := Lib.hid (P7_13_78.out.trans (B73.out.mono P7_13_78.out.size))
      go_wp2
      go_roundw
      case rel => exact ⟨1, by omega, rfl, P7_14_79⟩
      case measure => simp [intOf]
    · skip
      rw [show ((1 : Nat) : Int) = 1 from rfl]
      go_upto_region 9 with (fail)
      obtain ⟨w80, hW80⟩ : ∃ w80 : World, w80 = (wr.alloc (.cells #[.bool n12, .slice A12 l12 c12] 24)) := ⟨_, rfl⟩
      rw [← hW80]
      have hb80 : Below wr.heap.size wr w80 := by rw [hW80]; (repeat' (first | exact Below.refl _ _ | refine Below.drew ?_ | refine Below.alloc ?_ (by first | exact Nat.le_refl _ | (simp; done) | (simp; omega)) _))
      have Lx_80 : LB w80 (wr.heap.size) (.bool n12) (.slice A12 l12 c12) := by rw [hW80]; (repeat (first | (refine LB.new' ?_; simp; done) | refine LB.alloc ?_ _))
      have za80 : wr.heap.size + 1 ≤ w80.heap.size := by rw [hW80]; simp
      have B81 := Lib.hid hb80
      have z81 := B81.out.size
      have HB82 := Lib.hid (HBAS.out.trans (B81.out.mono HBAS.out.size))
      clear hb80 hW80
      have q83_0 := Lx_80.cell0
      have q83_1 := Lx_80.cell1
      have q83_2 := Lx_80.frozen 0
      have q83_3 := Lx_80.frozen 1
      have q83_lt := Lx_80.lt
      obtain ⟨⟨z1, z1e⟩, hrz1⟩ : ∃ r : Int × Int, r = A1 sqrtZ (numOf n12 (ni (dig (Y0 : Int).natAbs))) := ⟨_, rfl⟩
      have HRz1 := Lib.hid hrz1; clear hrz1
      go_wp2_with fail
      have P7_9_86 := Lib.hid (HBI.out.trans (B81.out.mono HBI.out.size))
      have Ho1_87 := Lib.hid (LR.step HV1.out P7_9_86.out)
      refine (Sqrt_any _ _ _ _ Ho1_87.out).mono ?_
      rintro e w85 ⟨hb85, hret84⟩
      have B88 := Lib.hid hb85
      have z88 := B88.out.size
      have HB89 := Lib.hid (HB82.out.trans (B88.out.mono HB82.out.size))
      clear hb85
      clear q83_0 q83_1 q83_2 q83_3 q83_lt
      rw [← HRz1.out] at hret84; obtain ⟨v84, rfl, hv84⟩ := hret84; replace hv84 : LV w85 w85.heap.size v84 z1 := hv84
      obtain ⟨n90, Ad90, l90, c90, rfl, hv90⟩ := hv84.opened
      have Hq_90 := Lib.hid hv90
      clear hv84 hv90
      have Lx_91 := LB.step Lx_80 B88.out
      have q92_0 := Lx_91.cell0
      have q92_1 := Lx_91.cell1
      have q92_2 := Lx_91.frozen 0
      have q92_3 := Lx_91.frozen 1
      have q92_lt := Lx_91.lt
      go_wp2_with fail
      obtain ⟨w93, hW93⟩ : ∃ w93 : World, w93 = (w85.alloc (.cells #[.bool n90, .slice Ad90 l90 c90] 24)) := ⟨_, rfl⟩
      rw [← hW93]
      have hb93 : Below w85.heap.size w85 w93 := by rw [hW93]; (repeat' (first | exact Below.refl _ _ | refine Below.drew ?_ | refine Below.alloc ?_ (by first | exact Nat.le_refl _ | (simp; done) | (simp; omega)) _))
      have Lq_93 : LB w93 (w85.heap.size) (.bool n90) (.slice Ad90 l90 c90) := by rw [hW93]; (repeat (first | (refine LB.new' ?_; simp; done) | refine LB.alloc ?_ _))
      have za93 : w85.heap.size + 1 ≤ w93.heap.size := by rw [hW93]; simp
      have B94 := Lib.hid hb93
      have z94 := B94.out.size
      have HB95 := Lib.hid (HB89.out.trans (B94.out.mono HB89.out.size))
      clear hb93 hW93
      clear q92_0 q92_1 q92_2 q92_3 q92_lt
      have P9_11_98 := Lib.hid (B88.out.trans (B94.out.mono B88.out.size))
      have Ho1_99 := Lib.hid (LR.step Ho1_87.out P9_11_98.out)
      refine (RSqrt_any _ _ _ _ Ho1_99.out).mono ?_
      rintro e w97 ⟨hb97, hret96⟩
      have B100 := Lib.hid hb97
      have z100 := B100.out.size
      have HB101 := Lib.hid (HB95.out.trans (B100.out.mono HB95.out.size))
      clear hb97
      rw [← HRz1.out] at hret96; obtain ⟨v96, rfl, hv96⟩ := hret96; replace hv96 : LV w97 w97.heap.size v96 z1 := hv96
      obtain ⟨n102, Ad102, l102, c102, rfl, hv102⟩ := hv96.opened
      have Hr_102 := Lib.hid hv102
      clear hv96 hv102
      have Lq_103 := LB.step Lq_93 B100.out
      have q104_0 := Lq_103.cell0
      have q104_1 := Lq_103.cell1
      have q104_2 := Lq_103.frozen 0
      have q104_3 := Lq_103.frozen 1
      have q104_lt := Lq_103.lt
      go_wp2_with fail
      obtain ⟨w105, hW105⟩ : ∃ w105 : World, w105 = (w97.alloc (.cells #[.bool n102, .slice Ad102 l102 c102] 24)) := ⟨_, rfl⟩
      rw [← hW105]
      have hb105 : Below w97.heap.size w97 w105 := by rw [hW105]; (repeat' (first | exact Below.refl _ _ | refine Below.drew ?_ | refine Below.alloc ?_ (by first | exact Nat.le_refl _ | (simp; done) | (simp; omega)) _))
      have Lr_105 : LB w105 (w97.heap.size) (.bool n102) (.slice Ad102 l102 c102) := by rw [hW105]; (repeat (first | (refine LB.new' ?_; simp; done) | refine LB.alloc ?_ _))
      have za105 : w97.heap.size + 1 ≤ w105.heap.size := by rw [hW105]; simp
      have B106 := Lib.hid hb105
      have z106 := B106.out.size
      have HB107 := Lib.hid (HB101.out.trans (B106.out.mono HB101.out.size))
      clear hb105 hW105
      clear q104_0 q104_1 q104_2 q104_3 q104_lt
      have Lq_109 := LB.step Lq_103 B106.out
      have q110_0 := Lq_109.cell0
      have q110_1 := Lq_109.cell1
      have q110_2 := Lq_109.frozen 0
      have q110_3 := Lq_109.frozen 1
      have q110_lt := Lq_109.lt
      have q111_0 := Lr_105.cell0
      have q111_1 := Lr_105.cell1
      have q111_2 := Lr_105.frozen 0
      have q111_3 := Lr_105.frozen 1
      have q111_lt := Lr_105.lt
      go_wp2_with fail
      have P10_12_112 := Lib.hid (B94.out.trans (B100.out.mono B94.out.size))
      have P10_13_113 := Lib.hid (P10_12_112.out.trans (B106.out.mono P10_12_112.out.size))
      have Hq_114 := Lib.hid (LV.step Hq_90.out P10_13_113.out)
      have Hr_115 := Lib.hid (LV.step Hr_102.out B106.out)
      refine (alike_yes _ _ _ z1 z1e Hq_114.out Hr_115.out).mono ?_
      rintro e w108 ⟨hb108, rfl⟩
      have B116 := Lib.hid hb108
      have z116 := B116.out.size
      have HB117 := Lib.hid (HB107.out.trans (B116.out.mono HB107.out.size))
      clear hb108
      clear q110_0 q110_1 q110_2 q110_3 q110_lt q111_0 q111_1 q111_2 q111_3 q111_lt
      have P7_10_118 := Lib.hid (P7_9_86.out.trans (B88.out.mono P7_9_86.out.size))
      have P7_11_119 := Lib.hid (P7_10_118.out.trans (B94.out.mono P7_10_118.out.size))
      have P7_12_120 := Lib.hid (P7_11_119.out.trans (B100.out.mono P7_11_119.out.size))
      have P7_13_121 := Lib.hid (P7_12_120.out.trans (B106.out.mono P7_12_120.out.size))
      have P7_14_122 := Lib.hid (P7_13_121.out.trans (B116.out.mono P7_13_121.out.size))
      go_wp2
      go_roundw
      case rel => exact ⟨2, by omega, rfl, P7_14_122⟩
      case measure => simp [intOf]
    · skip
      rw [show ((2 : Nat) : Int) = 2 from rfl]
      go_upto_region 9 with (fail)
      obtain ⟨w123, hW123⟩ : ∃ w123 : World, w123 = (wr.alloc (.cells #[.bool n19, .slice Ad19 l19 c19] 24)) := ⟨_, rfl⟩
      rw [← hW123]
      have hb123 : Below wr.heap.size wr w123 := by rw [hW123]; (repeat' (first | exact Below.refl _ _ | refine Below.drew ?_ | refine Below.alloc ?_ (by first | exact Nat.le_refl _ | (simp; done) | (simp; omega)) _))
      have Lx_123 : LB w123 (wr.heap.size) (.bool n19) (.slice Ad19 l19 c19) := by rw [hW123]; (repeat (first | (refine LB.new' ?_; simp; done) | refine LB.alloc ?_ _))
      have za123 : wr.heap.size + 1 ≤ w123.heap.size := by rw [hW123]; simp
      have B124 := Lib.hid hb123
      have z124 := B124.out.size
      have HB125 := Lib.hid (HBAS.out.trans (B124.out.mono HBAS.out.size))
      clear hb123 hW123
      have q126_0 := Lx_123.cell0
      have q126_1 := Lx_123.cell1
      have q126_2 := Lx_123.frozen 0
      have q126_3 := Lx_123.frozen 1
      have q126_lt := Lx_123.lt
      obtain ⟨⟨z2, z2e⟩, hrz2⟩ : ∃ r : Int × Int, r = A1 sqrtZ (numOf n19 (ni (dig (Q : Int).natAbs))) := ⟨_, rfl⟩
      have HRz2 := Lib.hid hrz2; clear hrz2
      go_wp2_with fail
      have P7_9_129 := Lib.hid (HBI.out.trans (B124.out.mono HBI.out.size))
      have Ho2_130 := Lib.hid (LR.step HV2.out P7_9_129.out)
      refine (Sqrt_any _ _ _ _ Ho2_130.out).mono ?_
      rintro e w128 ⟨hb128, hret127⟩
      have B131 := Lib.hid hb128
      have z131 := B131.out.size
      have HB132 := Lib.hid (HB125.out.trans (B131.out.mono HB125.out.size))
      clear hb128
      clear q126_0 q126_1 q126_2 q126_3 q126_lt
      rw [← HRz2.out] at hret127; obtain ⟨v127, rfl, hv127⟩ := hret127; replace hv127 : LV w128 w128.heap.size v127 z2 := hv127
      obtain ⟨n133, Ad133, l133, c133, rfl, hv133⟩ := hv127.opened
      have Hq_133 := Lib.hid hv133
      clear hv127 hv133
      have Lx_134 := LB.step Lx_123 B131.out
      have q135_0 := Lx_134.cell0
      have q135_1 := Lx_134.cell1
      have q135_2 := Lx_134.frozen 0
      have q135_3 := Lx_134.frozen 1
      have q135_lt := Lx_134.lt
      go_wp2_with fail
      obtain ⟨w136, hW136⟩ : ∃ w136 : World, w136 = (w128.alloc (.cells #[.bool n133, .slice Ad133 l133 c133] 24)) := ⟨_, rfl⟩
      rw [← hW136]
      have hb136 : Below w128.heap.size w128 w136 := by rw [hW136]; (repeat' (first | exact Below.refl _ _ | refine Below.drew ?_ | refine Below.alloc ?_ (by first | exact Nat.le_refl _ | (simp; done) | (simp; omega)) _))
      have Lq_136 : LB w136 (w128.heap.size) (.bool n133) (.slice Ad133 l133 c133) := by rw [hW136]; (repeat (first | (refine LB.new' ?_; simp; done) | refine LB.alloc ?_ _))
      have za136 : w128.heap.size + 1 ≤ w136.heap.size := by rw [hW136]; simp
      have B137 := Lib.hid hb136
      have z137 := B137.out.size
      have HB138 := Lib.hid (HB132.out.trans (B137.out.mono HB132.out.size))
      clear hb136 hW136
      clear q135_0 q135_1 q135_2 q135_3 q135_lt
      have P9_11_141 := Lib.hid (B131.out.trans (B137.out.mono B131.out.size))
      have Ho2_142 := Lib.hid (LR.step Ho2_130.out P9_11_141.out)
      refine (RSqrt_any _ _ _ _ Ho2_142.out).mono ?_
      rintro e w140 ⟨hb140, hret139⟩
      have B143 := Lib.hid hb140
      have z143 := B143.out.size
      have HB144 := Lib.hid (HB138.out.trans (B143.out.mono HB138.out.size))
      clear hb140
      rw [← HRz2.out] at hret139; obtain ⟨v139, rfl, hv139⟩ := hret139; replace hv139 : LV w140 w140.heap.size v139 z2 := hv139
      obtain ⟨n145, Ad145, l145, c145, rfl, hv145⟩ := hv139.opened
      have Hr_145 := Lib.hid hv145
      clear hv139 hv145
      have Lq_146 := LB.step Lq_136 B143.out
      have q147_0 := Lq_146.cell0
      have q147_1 := Lq_146.cell1
      have q147_2 := Lq_146.frozen 0
      have q147_3 := Lq_146.frozen 1
      have q147_lt := Lq_146.lt
      go_wp2_with fail
      obtain ⟨w148, hW148⟩ : ∃ w148 : World, w148 = (w140.alloc (.cells #[.bool n145, .slice Ad145 l145 c145] 24)) := ⟨_, rfl⟩
      rw [← hW148]
      have hb148 : Below w140.heap.size w140 w148 := by rw [hW148]; (repeat' (first | exact Below.refl _ _ | refine Below.drew ?_ | refine Below.alloc ?_ (by first | exact Nat.le_refl _ | (simp; done) | (simp; omega)) _))
      have Lr_148 : LB w148 (w140.heap.size) (.bool n145) (.slice Ad145 l145 c145) := by rw [hW148]; (repeat (first | (refine LB.new' ?_; simp; done) | refine LB.alloc ?_ _))
      have za148 : w140.heap.size + 1 ≤ w148.heap.size := by rw [hW148]; simp
      have B149 := Lib.hid hb148
      have z149 := B149.out.size
      have HB150 := Lib.hid (HB144.out.trans (B149.out.mono HB144.out.size))
      clear hb148 hW148
      clear q147_0 q147_1 q147_2 q147_3 q147_lt
      have Lq_152 := LB.step Lq_146 B149.out
      have q153_0 := Lq_152.cell0
      have q153_1 := Lq_152.cell1
      have q153_2 := Lq_152.frozen 0
      have q153_3 := Lq_152.frozen 1
      have q153_lt := Lq_152.lt
      have q154_0 := Lr_148.cell0
      have q154_1 := Lr_148.cell1
      have q154_2 := Lr_148.frozen 0
      have q154_3 := Lr_148.frozen 1
      have q154_lt := Lr_148.lt
      go_wp2_with fail
      have P10_12_155 := Lib.hid (B137.out.trans (B143.out.mono B137.out.size))
      have P10_13_156 := Lib.hid (P10_12_155.out.trans (B149.out.mono P10_12_155.out.size))
      have Hq_157 := Lib.hid (LV.step Hq_133.out P10_13_156.out)
      have Hr_158 := Lib.hid (LV.step Hr_145.out B149.out)
      refine (alike_yes _ _ _ z2 z2e Hq_157.out Hr_158.out).mono ?_
      rintro e w151 ⟨hb151, rfl⟩
      have B159 := Lib.hid hb151
      have z159 := B159.out.size
      have HB160 := Lib.hid (HB150.out.trans (B159.out.mono HB150.out.size))
      clear hb151
      clear q153_0 q153_1 q153_2 q153_3 q153_lt q154_0 q154_1 q154_2 q154_3 q154_lt
      have P7_10_161 := Lib.hid (P7_9_129.out.trans (B131.out.mono P7_9_129.out.size))
      have P7_11_162 := Lib.hid (P7_10_161.out.trans (B137.out.mono P7_10_161.out.size))
      have P7_12_163 := Lib.hid (P7_11_162.out.trans (B143.out.mono P7_11_162.out.size))
      have P7_13_164 := Lib.hid (P7_12_163.out.trans (B149.out.mono P7_12_163.out.size))
      have P7_14_165 := Lib.hid (P7_13_164.out.trans (B159.out.mono P7_13_164.out.size))
      go_wp2
      go_roundw
      case rel => exact ⟨3, by omega, rfl, P7_14_165⟩
      case measure => simp [intOf]
    · skip
      rw [show ((3 : Nat) : Int) = 3 from rfl]
      go_upto_region 9 with (fail)
      obtain ⟨w166, hW166⟩ : ∃ w166 : World, w166 = (wr.alloc (.cells #[.bool n14, .slice A14 l14 c14] 24)) := ⟨_, rfl⟩
      rw [← hW166]
      have hb166 : Below wr.heap.size wr w166 := by rw [hW166]; (repeat' (first | exact Below.refl _ _ | refine Below.drew ?_ | refine Below.alloc ?_ (by first | exact Nat.le_refl _ | (simp; done) | (simp; omega)) _))
      have Lx_166 : LB w166 (wr.heap.size) (.bool n14) (.slice A14 l14 c14) := by rw [hW166]; (repeat (first | (refine LB.new' ?_; simp; done) | refine LB.alloc ?_ _))
      have za166 : wr.heap.size + 1 ≤ w166.heap.size := by rw [hW166]; simp
      have B167 := Lib.hid hb166
      have z167 := B167.out.size
      have HB168 := Lib.hid (HBAS.out.trans (B167.out.mono HBAS.out.size))
      clear hb166 hW166
      have q169_0 := Lx_166.cell0
      have q169_1 := Lx_166.cell1
      have q169_2 := Lx_166.frozen 0
      have q169_3 := Lx_166.frozen 1
      have q169_lt := Lx_166.lt
      obtain ⟨⟨z3, z3e⟩, hrz3⟩ : ∃ r : Int × Int, r = A1 sqrtZ (numOf n14 (ni (dig ((Q + 1) : Int).natAbs))) := ⟨_, rfl⟩
      have HRz3 := Lib.hid hrz3; clear hrz3
      go_wp2_with fail
      have P7_9_172 := Lib.hid (HBI.out.trans (B167.out.mono HBI.out.size))
      have Ho3_173 := Lib.hid (LR.step HV3.out P7_9_172.out)
      refine (Sqrt_any _ _ _ _ Ho3_173.out).mono ?_
      rintro e w171 ⟨hb171, hret170⟩
      have B174 := Lib.hid hb171
      have z174 := B174.out.size
      have HB175 := Lib.hid (HB168.out.trans (B174.out.mono HB168.out.size))
      clear hb171
      clear q169_0 q169_1 q169_2 q169_3 q169_lt
      rw [← HRz3.out] at hret170; obtain ⟨v170, rfl, hv170⟩ := hret170; replace hv170 : LV w171 w171.heap.size v170 z3 := hv170
      obtain ⟨n176, Ad176, l176, c176, rfl, hv176⟩ := hv170.opened
      have Hq_176 := Lib.hid hv176
      clear hv170 hv176
      have Lx_177 := LB.step Lx_166 B174.out
      have q178_0 := Lx_177.cell0
      have q178_1 := Lx_177.cell1
      have q178_2 := Lx_177.frozen 0
      have q178_3 := Lx_177.frozen 1
      have q178_lt := Lx_177.lt
      go_wp2_with fail
      obtain ⟨w179, hW179⟩ : ∃ w179 : World, w179 = (w171.alloc (.cells #[.bool n176, .slice Ad176 l176 c176] 24)) := ⟨_, rfl⟩
      rw [← hW179]
      have hb179 : Below w171.heap.size w171 w179 := by rw [hW179]; (repeat' (first | exact Below.refl _ _ | refine Below.drew ?_ | refine Below.alloc ?_ (by first | exact Nat.le_refl _ | (simp; done) | (simp; omega)) _))
      have Lq_179 : LB w179 (w171.heap.size) (.bool n176) (.slice Ad176 l176 c176) := by rw [hW179]; (repeat (first | (refine LB.new' ?_; simp; done) | refine LB.alloc ?_ _))
      have za179 : w171.heap.size + 1 ≤ w179.heap.size := by rw [hW179]; simp
      have B180 := Lib.hid hb179
      have z180 := B180.out.size
      have HB181 := Lib.hid (HB175.out.trans (B180.out.mono HB175.out.size))
      clear hb179 hW179
      clear q178_0 q178_1 q178_2 q178_3 q178_lt
      have P9_11_184 := Lib.hid (B174.out.trans (B180.out.mono B174.out.size))
      have Ho3_185 := Lib.hid (LR.step Ho3_173.out P9_11_184.out)
      refine (RSqrt_any _ _ _ _ Ho3_185.out).mono ?_
      rintro e w183 ⟨hb183, hret182⟩
      have B186 := Lib.hid hb183
      have z186 := B186.out.size
      have HB187 := Lib.hid (HB181.out.trans (B186.out.mono HB181.out.size))
      clear hb183
      rw [← HRz3.out] at hret182; obtain ⟨v182, rfl, hv182⟩ := hret182; replace hv182 : LV w183 w183.heap.size v182 z3 := hv182
      obtain ⟨n188, Ad188, l188, c188, rfl, hv188⟩ := hv182.opened
      have Hr_188 := Lib.hid hv188
      clear hv182 hv188
      have Lq_189 := LB.step Lq_179 B186.out
      have q190_0 := Lq_189.cell0
      have q190_1 := Lq_189.cell1
      have q190_2 := Lq_189.frozen 0
      have q190_3 := Lq_189.frozen 1
      have q190_lt := Lq_189.lt
      go_wp2_with fail
      obtain ⟨w191, hW191⟩ : ∃ w191 : World, w191 = (w183.alloc (.cells #[.bool n188, .slice Ad188 l188 c188] 24)) := ⟨_, rfl⟩
      rw [← hW191]
      have hb191 : Below w183.heap.size w183 w191 := by rw [hW191]; (repeat' (first | exact Below.refl _ _ | refine Below.drew ?_ | refine Below.alloc ?_ (by first | exact Nat.le_refl _ | (simp; done) | (simp; omega)) _))
      have Lr_191 : LB w191 (w183.heap.size) (.bool n188) (.slice Ad188 l188 c188) := by rw [hW191]; (repeat (first | (refine LB.new' ?_; simp; done) | refine LB.alloc ?_ _))
      have za191 : w183.heap.size + 1 ≤ w191.heap.size := by rw [hW191]; simp
      have B192 := Lib.hid hb191
      have z192 := B192.out.size
      have HB193 := Lib.hid (HB187.out.trans (B192.out.mono HB187.out.size))
      clear hb191 hW191
      clear q190_0 q190_1 q190_2 q190_3 q190_lt
      have Lq_195 := LB.step Lq_189 B192.out
      have q196_0 := Lq_195.cell0
      have q196_1 := Lq_195.cell1
      have q196_2 := Lq_195.frozen 0
      have q196_3 := Lq_195.frozen 1
      have q196_lt := Lq_195.lt
      have q197_0 := Lr_191.cell0
      have q197_1 := Lr_191.cell1
      have q197_2 := Lr_191.frozen 0
      have q197_3 := Lr_191.frozen 1
      have q197_lt := Lr_191.lt
      go_wp2_with fail
      have P10_12_198 := Lib.hid (B180.out.trans (B186.out.mono B180.out.size))
      have P10_13_199 := Lib.hid (P10_12_198.out.trans (B192.out.mono P10_12_198.out.size))
      have Hq_200 := Lib.hid (LV.step Hq_176.out P10_13_199.out)
      have Hr_201 := Lib.hid (LV.step Hr_188.out B192.out)
      refine (alike_yes _ _ _ z3 z3e Hq_200.out Hr_201.out).mono ?_
      rintro e w194 ⟨hb194, rfl⟩
      have B202 := Lib.hid hb194
      have z202 := B202.out.size
      have HB203 := Lib.hid (HB193.out.trans (B202.out.mono HB193.out.size))
      clear hb194
      clear q196_0 q196_1 q196_2 q196_3 q196_lt q197_0 q197_1 q197_2 q197_3 q197_lt
      have P7_10_204 := Lib.hid (P7_9_172.out.trans (B174.out.mono P7_9_172.out.size))
      have P7_11_205 := Lib.hid (P7_10_204.out.trans (B180.out.mono P7_10_204.out.size))
      have P7_12_206 := Lib.hid (P7_11_205.out.trans (B186.out.mono P7_11_205.out.size))
      have P7_13_207 := Lib.hid (P7_12_206.out.trans (B192.out.mono P7_12_206.out.size))
      have P7_14_208 := Lib.hid (P7_13_207.out.trans (B202.out.mono P7_13_207.out.size))
      go_wp2
      go_roundw
      case rel => exact ⟨4, by omega, rfl, P7_14_208⟩
      case measure => simp [intOf]
    · skip
      rw [show ((4 : Nat) : Int) = 4 from rfl]
      go_upto_region 9 with (fail)
      obtain ⟨w209, hW209⟩ : ∃ w209 : World, w209 = (wr.alloc (.cells #[.bool n16, .slice A16 l16 c16] 24)) := ⟨_, rfl⟩
      rw [← hW209]
      have hb209 : Below wr.heap.size wr w209 := by rw [hW209]; (repeat' (first | exact Below.refl _ _ | refine Below.drew ?_ | refine Below.alloc ?_ (by first | exact Nat.le_refl _ | (simp; done) | (simp; omega)) _))
      have Lx_209 : LB w209 (wr.heap.size) (.bool n16) (.slice A16 l16 c16) := by rw [hW209]; (repeat (first | (refine LB.new' ?_; simp; done) | refine LB.alloc ?_ _))
      have za209 : wr.heap.size + 1 ≤ w209.heap.size := by rw [hW209]; simp
      have B210 := Lib.hid hb209
      have z210 := B210.out.size
      have HB211 := Lib.hid (HBAS.out.trans (B210.out.mono HBAS.out.size))
      clear hb209 hW209
      have q212_0 := Lx_209.cell0
      have q212_1 := Lx_209.cell1
      have q212_2 := Lx_209.frozen 0
      have q212_3 := Lx_209.frozen 1
      have q212_lt := Lx_209.lt
      obtain ⟨⟨z4, z4e⟩, hrz4⟩ : ∃ r : Int × Int, r = A1 sqrtZ (numOf n16 (ni (dig ((Q - 1) : Int).natAbs))) := ⟨_, rfl⟩
      have HRz4 := Lib.hid hrz4; clear hrz4
      go_wp2_with fail
      have P7_9_215 := Lib.hid (HBI.out.trans (B210.out.mono HBI.out.size))
      have Ho4_216 := Lib.hid (LR.step HV4.out P7_9_215.out)
      refine (Sqrt_any _ _ _ _ Ho4_216.out).mono ?_
      rintro e w214 ⟨hb214, hret213⟩
      have B217 := Lib.hid hb214
      have z217 := B217.out.size
      have HB218 := Lib.hid (HB211.out.trans (B217.out.mono HB211.out.size))
      clear hb214
      clear q212_0 q212_1 q212_2 q212_3 q212_lt
      rw [← HRz4.out] at hret213; obtain ⟨v213, rfl, hv213⟩ := hret213; replace hv213 : LV w214 w214.heap.size v213 z4 := hv213
      obtain ⟨n219, Ad219, l219, c219, rfl, hv219⟩ := hv213.opened
      have Hq_219 := Lib.hid hv219
      clear hv213 hv219
      have Lx_220 := LB.step Lx_209 B217.out
      have q221_0 := Lx_220.cell0
      have q221_1 := Lx_220.cell1
      have q221_2 := Lx_220.frozen 0
      have q221_3 := Lx_220.frozen 1
      have q221_lt := Lx_220.lt
      go_wp2_with fail
      obtain ⟨w222, hW222⟩ : ∃ w222 : World, w222 = (w214.alloc (.cells #[.bool n219, .slice Ad219 l219 c219] 24)) := ⟨_, rfl⟩
      rw [← hW222]
      have hb222 : Below w214.heap.size w214 w222 := by rw [hW222]; (repeat' (first | exact Below.refl _ _ | refine Below.drew ?_ | refine Below.alloc ?_ (by first | exact Nat.le_refl _ | (simp; done) | (simp; omega)) _))
      have Lq_222 : LB w222 (w214.heap.size) (.bool n219) (.slice Ad219 l219 c219) := by rw [hW222]; (repeat (first | (refine LB.new' ?_; simp; done) | refine LB.alloc ?_ _))
      have za222 : w214.heap.size + 1 ≤ w222.heap.size := by rw [hW222]; simp
      have B223 := Lib.hid hb222
      have z223 := B223.out.size
      have HB224 := Lib.hid (HB218.out.trans (B223.out.mono HB218.out.size))
      clear hb222 hW222
      clear q221_0 q221_1 q221_2 q221_3 q221_lt
      have P9_11_227 := Lib.hid (B217.out.trans (B223.out.mono B217.out.size))
      have Ho4_228 := Lib.hid (LR.step Ho4_216.out P9_11_227.out)
      refine (RSqrt_any _ _ _ _ Ho4_228.out).mono ?_
      rintro e w226 ⟨hb226, hret225⟩
      have B229 := Lib.hid hb226
      have z229 := B229.out.size
      have HB230 := Lib.hid (HB224.out.trans (B229.out.mono HB224.out.size))
      clear hb226
      rw [← HRz4.out] at hret225; obtain ⟨v225, rfl, hv225⟩ := hret225; replace hv225 : LV w226 w226.heap.size v225 z4 := hv225
      obtain ⟨n231, Ad231, l231, c231, rfl, hv231⟩ := hv225.opened
      have Hr_231 := Lib.hid hv231
      clear hv225 hv231
      have Lq_232 := LB.step Lq_222 B229.out
      have q233_0 := Lq_232.cell0
      have q233_1 := Lq_232.cell1
      have q233_2 := Lq_232.frozen 0
      have q233_3 := Lq_232.frozen 1
      have q233_lt := Lq_232.lt
      go_wp2_with fail
      obtain ⟨w234, hW234⟩ : ∃ w234 : World, w234 = (w226.alloc (.cells #[.bool n231, .slice Ad231 l231 c231] 24)) := ⟨_, rfl⟩
      rw [← hW234]
      have hb234 : Below w226.heap.size w226 w234 := by rw [hW234]; (repeat' (first | exact Below.refl _ _ | refine Below.drew ?_ | refine Below.alloc ?_ (by first | exact Nat.le_refl _ | (simp; done) | (simp; omega)) _))
      have Lr_234 : LB w234 (w226.heap.size) (.bool n231) (.slice Ad231 l231 c231) := by rw [hW234]; (repeat (first | (refine LB.new' ?_; simp; done) | refine LB.alloc ?_ _))
      have za234 : w226.heap.size + 1 ≤ w234.heap.size := by rw [hW234]; simp
      have B235 := Lib.hid hb234
      have z235 := B235.out.size
      have HB236 := Lib.hid (HB230.out.trans (B235.out.mono HB230.out.size))
      clear hb234 hW234
      clear q233_0 q233_1 q233_2 q233_3 q233_lt
      have Lq_238 := LB.step Lq_232 B235.out
      have q239_0 := Lq_238.cell0
      have q239_1 := Lq_238.cell1
      have q239_2 := Lq_238.frozen 0
      have q239_3 := Lq_238.frozen 1
      have q239_lt := Lq_238.lt
      have q240_0 := Lr_234.cell0
      have q240_1 := Lr_234.cell1
      have q240_2 := Lr_234.frozen 0
      have q240_3 := Lr_234.frozen 1
      have q240_lt := Lr_234.lt
      go_wp2_with fail
      have P10_12_241 := Lib.hid (B223.out.trans (B229.out.mono B223.out.size))
      have P10_13_242 := Lib.hid (P10_12_241.out.trans (B235.out.mono P10_12_241.out.size))
      have Hq_243 := Lib.hid (LV.step Hq_219.out P10_13_242.out)
      have Hr_244 := Lib.hid (LV.step Hr_231.out B235.out)
      refine (alike_yes _ _ _ z4 z4e Hq_243.out Hr_244.out).mono ?_
      rintro e w237 ⟨hb237, rfl⟩
      have B245 := Lib.hid hb237
      have z245 := B245.out.size
      have HB246 := Lib.hid (HB236.out.trans (B245.out.mono HB236.out.size))
      clear hb237
      clear q239_0 q239_1 q239_2 q239_3 q239_lt q240_0 q240_1 q240_2 q240_3 q240_lt
      have P7_10_247 := Lib.hid (P7_9_215.out.trans (B217.out.mono P7_9_215.out.size))
      have P7_11_248 := Lib.hid (P7_10_247.out.trans (B223.out.mono P7_10_247.out.size))
      have P7_12_249 := Lib.hid (P7_11_248.out.trans (B229.out.mono P7_11_248.out.size))
      have P7_13_250 := Lib.hid (P7_12_249.out.trans (B235.out.mono P7_12_249.out.size))
      have P7_14_251 := Lib.hid (P7_13_250.out.trans (B245.out.mono P7_13_250.out.size))
      go_wp2
      go_roundw
      case rel => exact ⟨5, by omega, rfl, P7_14_251⟩
      case measure => simp [intOf]
    · skip
      rw [show ((5 : Nat) : Int) = 5 from rfl]
      go_wp2
      go_ret
      exact ⟨HBAS.out, rfl⟩
end Go.Proofs.YtnbanlmkoljghaaGreatDoor
