/- The law LongTexts (written by gen_texts.py). -/
import Derived.Test.YtnbanlmkoljghaaGreatDoorLawC
import Derived.Test.YtnbanlmkoljghaaGreatDoorRefc
import Derived.Test.YtnbanlmkoljghaaGreatDoorRefb
namespace Go.Proofs.YtnbanlmkoljghaaGreatDoor
open Go Go.RowKit Dig

theorem lv_lr {w : World} {B : Nat} {n : Bool} {A : Option Addr} {l c : Nat} {z : Int} (h : LV w B (.agg #[.bool n, .slice A l c]) z) : LR w B (.agg #[.bool n, .slice A l c]) n (ni (dig z.natAbs)) := by
  obtain ⟨s, e, hs⟩ := h
  injection e with e
  simp at e
  exact ⟨s, by rw [e.2], hs⟩
theorem byte_of {c : Int} (h0 : 0 ≤ c) (h1 : c ≤ 255) : ∃ cc : UInt8, c = (cc.toNat : Int) := ⟨UInt8.ofNat c.toNat, by rw [UInt8.toNat_ofNat']; omega⟩
theorem mod_nat {x : Int} (h : 0 ≤ x) (M : Nat) : x % ((M : Int) + 1) = ((x.toNat % (M + 1) : Nat) : Int) := by
  obtain ⟨a, rfl⟩ : ∃ a : Nat, x = (a : Int) := ⟨x.toNat, by omega⟩
  rw [Int.toNat_natCast]
  exact (Int.natCast_emod a (M + 1)).symm
theorem conv_one (w : World) (c : UInt8) : (convert 54 9 (.slice (some ⟨w.heap.size, 0, none⟩) 1 1)).run Tryz.prog (w.alloc (.cells #[.int .u8 (c.toNat : Int)] 5)).drew = .ok (.string ⟨#[c]⟩) (w.alloc (.cells #[.int .u8 (c.toNat : Int)] 5)).drew :=
  conv_bytes (l := [c]) (w := (w.alloc (.cells #[.int .u8 (c.toNat : Int)] 5)).drew) ⟨[], heap_alloc_new w _⟩ rfl
theorem idx4_0 (a b c d : Value) (w : World) : (Instr.index 55 (.agg #[a, b, c, d]) (.int .i64 0)).run Tryz.prog w = .ok a w := by kernel_rfl
theorem idx4_1 (a b c d : Value) (w : World) : (Instr.index 55 (.agg #[a, b, c, d]) (.int .i64 1)).run Tryz.prog w = .ok b w := by kernel_rfl
theorem idx4_2 (a b c d : Value) (w : World) : (Instr.index 55 (.agg #[a, b, c, d]) (.int .i64 2)).run Tryz.prog w = .ok c w := by kernel_rfl
theorem idx4_3 (a b c d : Value) (w : World) : (Instr.index 55 (.agg #[a, b, c, d]) (.int .i64 3)).run Tryz.prog w = .ok d w := by kernel_rfl
theorem one_size (c : UInt8) : (ByteArray.mk #[c]).size = 1 := rfl
theorem bare_len2 (l : List UInt8) : l.length ≤ (bare l).length + 1 := by
  cases l with
  | nil => simp
  | cons c r =>
    by_cases hc : c = 45
    · subst hc; rw [bare_dash]; simp
    · rw [bare_other r hc]; omega

set_option maxRecDepth 100000 in
set_option maxHeartbeats 8000000 in
theorem LongTexts_any (w : World) (G : Glob w) (na : Bool) (sa : Value) (la : List Int) (ha : RI w w.heap.size sa la) (nd : Bool) (ld : Int) (sd : Value) (wd : List Nat) (hd0 : 0 ≤ ld) (hd1 : ld ≤ 255) (hd : RW w w.heap.size sd wd)
    (s : ByteArray) (hs : s.size ≤ maxLen) (at_ : Int) (ha0 : 0 ≤ at_) (ha1 : at_ ≤ 65535) (c_ : Int) (hc0 : 0 ≤ c_) (hc1 : c_ ≤ 255) :
    Calls Tryz.prog 6 #[.agg #[.bool na, sa], .agg #[.bool nd, .int .u8 ld, sd], .string s, .int .u16 at_, .int .u8 c_] w fun e w' => Below w.heap.size w w' ∧ e = .returned (.bool true) := by
  obtain ⟨cc, rfl⟩ : ∃ cc : UInt8, c_ = (cc.toNat : Int) := byte_of hc0 hc1
  obtain ⟨Y0, hY⟩ : ∃ z, sgn nd (val (draftDs (ld.toNat % 8) 40 wd)) = z := ⟨_, rfl⟩
  have hlY0 : Hid (Len 47 Y0) := Lib.hid (by rw [← hY, Len]; exact draft_fit (by omega))
  replace hY := Lib.hid hY
  obtain ⟨P0, c0, rfl, -⟩ := ha.at
  obtain ⟨k0, hk0⟩ : ∃ k, k = la.length := ⟨_, rfl⟩
  rw [← hk0] at ha ⊢
  have HK0 := Lib.hid hk0; clear hk0
  obtain ⟨w0, hw0⟩ : ∃ w0 : World, w0 = (w.alloc (.cells #[.bool na, .slice P0 k0 c0] 24)).alloc (.cells #[.bool nd, .int .u8 ld, sd] 27) := ⟨_, rfl⟩
  have B0 := Lib.hid (show Below w.heap.size w w0 by rw [hw0]; (repeat' (first | exact Below.refl _ _ | refine Below.drew ?_ | refine Below.alloc ?_ (by first | exact Nat.le_refl _ | (simp; done) | (simp; omega)) _)))
  have z0 : w.heap.size + 2 ≤ w0.heap.size := by rw [hw0]; simp
  have La : LB w0 w.heap.size (.bool na) (.slice P0 k0 c0) := by rw [hw0]; (repeat (first | (refine LB.new' ?_; simp; done) | refine LB.alloc ?_ _))
  have Ld : CB w0 (w.heap.size + 1) 27 #[.bool nd, .int .u8 ld, sd] := by rw [hw0]; have h := CB.new (w.alloc (.cells #[.bool na, .slice P0 k0 c0] 24)) 27 #[.bool nd, .int .u8 ld, sd]; simpa using h
  have HA := Lib.hid (LR.step (LR.of (n := na) ha) B0.out); have HSD := Lib.hid (RW.step hd B0.out)
  clear ha hd
  subst hw0
  have HS := Lib.hid hs; clear hs
  go_enter Tryz.func6, Tryz.ntmps6
  go_wp2_with fail
  refine (works_any _ (G.step B0.out)).mono ?_
  rintro e w1 ⟨hb1, rfl⟩
  have B2 := Lib.hid hb1
  have z2 := B2.out.size
  have HB3 := Lib.hid (B0.out.trans (B2.out.mono B0.out.size))
  clear hb1
  go_upto_region 3 with (fail)
  have La_4 := LB.step La B2.out
  have Ldraft_5 := CB.step Ld B2.out
  have Ha_6 := Lib.hid (LR.step HA.out B2.out)
  have Hsd_7 := Lib.hid (RW.step HSD.out B2.out)
  have KS : ∀ w' : World, Below w1.heap.size w1 w' → (Below w1.heap.size w1 w' ∧ w'.cell? ⟨w.heap.size, 0, none⟩ = some (.bool na) ∧ w'.cell? ⟨w.heap.size, 1, none⟩ = some (.slice P0 k0 c0) ∧ w'.cell? ⟨w.heap.size + 1, 0, none⟩ = some (.bool nd) ∧ w'.cell? ⟨w.heap.size + 1, 1, none⟩ = some (.int .u8 ld) ∧ w'.cell? ⟨w.heap.size + 1, 2, none⟩ = some (sd)) := fun w' h => ⟨h, (LB.step La_4 h).cell0, (LB.step La_4 h).cell1, (CB.step Ldraft_5 h).cell 0 rfl, (CB.step Ldraft_5 h).cell 1 rfl, (CB.step Ldraft_5 h).cell 2 rfl⟩
  have KB : ∀ w' : World, (Below w1.heap.size w1 w' ∧ w'.cell? ⟨w.heap.size, 0, none⟩ = some (.bool na) ∧ w'.cell? ⟨w.heap.size, 1, none⟩ = some (.slice P0 k0 c0) ∧ w'.cell? ⟨w.heap.size + 1, 0, none⟩ = some (.bool nd) ∧ w'.cell? ⟨w.heap.size + 1, 1, none⟩ = some (.int .u8 ld) ∧ w'.cell? ⟨w.heap.size + 1, 2, none⟩ = some (sd)) → Below w1.heap.size w1 w' := fun w' h => h.1
  obtain ⟨-, p0, p1, p2, p3, p4⟩ := KS w1 (Below.refl _ _)
  have tok1 : True := trivial
  have tok2 : True := trivial
  have HAA := Lib.hid (Ha_6.out); have HSDD := Lib.hid (Hsd_7.out); have HBASE := Lib.hid (HB3.out)
  go_region_held3 (fun w' => Below w1.heap.size w1 w' ∧ w'.cell? ⟨w.heap.size, 0, none⟩ = some (.bool na) ∧ w'.cell? ⟨w.heap.size, 1, none⟩ = some (.slice P0 k0 c0) ∧ w'.cell? ⟨w.heap.size + 1, 0, none⟩ = some (.bool nd) ∧ w'.cell? ⟨w.heap.size + 1, 1, none⟩ = some (.int .u8 ld) ∧ w'.cell? ⟨w.heap.size + 1, 2, none⟩ = some (sd)) (first
    | (refine KS _ ?_; repeat (first | with_reducible exact KU.out | with_reducible exact Below.refl _ _ | with_reducible refine below_drew1 ?_))
    | go_keep) (first
    | (go_at_call 18; clear tok1; ((with_reducible refine (own_any _ _ na la (by exact LR.step HAA.out (KB _ (by assumption)))).mono ?_); rintro e u1 ⟨hbu, v11, rfl, hv11⟩; obtain ⟨A11, k11, c11, rfl, hv11⟩ := hv11.opened; have HO := Lib.hid hv11; have KU' := Lib.hid (Below.trans (KB _ (by assumption)) (hbu.mono (KB _ (by assumption)).size)); have KU := KU'; clear KU'; clear hbu hv11))
    | (go_at_call 29; clear tok2; ((with_reducible refine (Long_any _ nd ld _ wd hd0 hd1 (by exact RW.step HSDD.out (KB _ (by assumption)))).mono ?_); rintro e u2 ⟨hbu, v12, rfl, hv12⟩; rw [hY.out] at hv12; obtain ⟨n12, A12, l12, c12, rfl, hv12⟩ := hv12.opened; have HYV := Lib.hid hv12; have HO2 := Lib.hid (LR.step (by repeat (first | with_reducible exact HO.out | with_reducible refine LR.drew1 ?_)) hbu); have KU' := Lib.hid (Below.trans (KB _ (by assumption)) (hbu.mono (KB _ (by assumption)).size)); clear KU; have KU := KU'; clear KU'; clear hbu hv12)))
  rename_i hheld
  simp only [Exit.then]
  have B8 := Lib.hid KU.out
  have z8 := B8.out.size
  have HB9 := Lib.hid (HB3.out.trans (B8.out.mono HB3.out.size))
  have HYL := Lib.hid (lv_lr HYV.out)
  clear HYV HAA HSDD HBASE hheld KU KS KB p0 p1 p2 p3 p4
  have i0 : ∀ w : World, (Instr.index 33 (.agg #[.bool na, .slice A11 k11 c11, .bool n12, .slice A12 l12 c12]) (.int .i64 0)).run Tryz.prog w = .ok (.agg #[.bool na, .slice A11 k11 c11]) w := fun _ => by kernel_rfl
  have i1 : ∀ w : World, (Instr.index 33 (.agg #[.bool na, .slice A11 k11 c11, .bool n12, .slice A12 l12 c12]) (.int .i64 1)).run Tryz.prog w = .ok (.agg #[.bool n12, .slice A12 l12 c12]) w := fun _ => by kernel_rfl
  have HENT := Lib.hid HB9.out
  go_wp2
  go_loopw [32] (fun i wr => ∃ j : Nat, j ≤ 2 ∧ i = .int .i64 j ∧ Hid (Below u2.heap.size u2 wr)) (fun i _ => 2 - (intOf i).toNat)
  case atStart => exact ⟨0, by omega, rfl, Lib.hid (Below.refl _ _)⟩
  case round =>
    obtain ⟨j, hj, rfl, HBI⟩ := hrel
    have zi := HBI.out.size
    have HBAS := Lib.hid (HENT.out.trans (HBI.out.mono HENT.out.size))
    have hj3 : j = 0 ∨ j = 1 ∨ j = 2 := by omega
    rcases hj3 with rfl | rfl | rfl
    · skip
      rw [show ((0 : Nat) : Int) = 0 from rfl]
      go_upto_region 6 with (fail)
      obtain ⟨w10, hW10⟩ : ∃ w10 : World, w10 = (wr.alloc (.cells #[.bool na, .slice A11 k11 c11] 24)) := ⟨_, rfl⟩
      rw [← hW10]
      have hb10 : Below wr.heap.size wr w10 := by rw [hW10]; (repeat' (first | exact Below.refl _ _ | refine Below.drew ?_ | refine Below.alloc ?_ (by first | exact Nat.le_refl _ | (simp; done) | (simp; omega)) _))
      have Lx_10 : LB w10 (wr.heap.size) (.bool na) (.slice A11 k11 c11) := by rw [hW10]; (repeat (first | (refine LB.new' ?_; simp; done) | refine LB.alloc ?_ _))
      have za10 : wr.heap.size + 1 ≤ w10.heap.size := by rw [hW10]; simp
      have B11 := Lib.hid hb10
      have z11 := B11.out.size
      have HB12 := Lib.hid (HBAS.out.trans (B11.out.mono HBAS.out.size))
      clear hb10 hW10
      obtain ⟨⟨t, te⟩, hrt⟩ : ∃ r, r = T1 (numOf na (la.take 60)) := ⟨_, rfl⟩; have HRT := Lib.hid hrt; clear hrt
      have q14_0 := Lx_10.cell0
      have q14_1 := Lx_10.cell1
      have q14_2 := Lx_10.frozen 0
      have q14_3 := Lx_10.frozen 1
      have q14_lt := Lx_10.lt
      go_wp2_with fail
      have P3_5_15 := Lib.hid (HBI.out.trans (B11.out.mono HBI.out.size))
      have Ho0_16 := Lib.hid (LR.step HO2.out P3_5_15.out)
      refine (Text_any _ _ _ _ Ho0_16.out (G.step HB12.out)).mono ?_
      rintro e w13 ⟨hb13, hret⟩
      have B17 := Lib.hid hb13
      have z17 := B17.out.size
      have HB18 := Lib.hid (HB12.out.trans (B17.out.mono HB12.out.size))
      clear hb13
      clear q14_0 q14_1 q14_2 q14_3 q14_lt
      rw [← HRT.out] at hret; obtain rfl := hret; dsimp only
      have Lx_20 := LB.step Lx_10 B17.out
      have q21_0 := Lx_20.cell0
      have q21_1 := Lx_20.cell1
      have q21_2 := Lx_20.frozen 0
      have q21_3 := Lx_20.frozen 1
      have q21_lt := Lx_20.lt
      go_wp2_with fail
      have Ho0_22 := Lib.hid (LR.step Ho0_16.out B17.out)
      refine (RText_any _ _ _ _ Ho0_22.out).mono ?_
      rintro e w19 ⟨hb19, hret⟩
      have B23 := Lib.hid hb19
      have z23 := B23.out.size
      have HB24 := Lib.hid (HB18.out.trans (B23.out.mono HB18.out.size))
      clear hb19
      clear q21_0 q21_1 q21_2 q21_3 q21_lt
      rw [← HRT.out] at hret; obtain rfl := hret; dsimp only
      have P3_6_25 := Lib.hid (P3_5_15.out.trans (B17.out.mono P3_5_15.out.size))
      have P3_7_26 := Lib.hid (P3_6_25.out.trans (B23.out.mono P3_6_25.out.size))
      go_wp2
      go_roundw
      case rel => exact ⟨1, by omega, rfl, P3_7_26⟩
      case measure => simp [intOf]
    · skip
      rw [show ((1 : Nat) : Int) = 1 from rfl]
      go_upto_region 6 with (fail)
      obtain ⟨w27, hW27⟩ : ∃ w27 : World, w27 = (wr.alloc (.cells #[.bool n12, .slice A12 l12 c12] 24)) := ⟨_, rfl⟩
      rw [← hW27]
      have hb27 : Below wr.heap.size wr w27 := by rw [hW27]; (repeat' (first | exact Below.refl _ _ | refine Below.drew ?_ | refine Below.alloc ?_ (by first | exact Nat.le_refl _ | (simp; done) | (simp; omega)) _))
      have Lx_27 : LB w27 (wr.heap.size) (.bool n12) (.slice A12 l12 c12) := by rw [hW27]; (repeat (first | (refine LB.new' ?_; simp; done) | refine LB.alloc ?_ _))
      have za27 : wr.heap.size + 1 ≤ w27.heap.size := by rw [hW27]; simp
      have B28 := Lib.hid hb27
      have z28 := B28.out.size
      have HB29 := Lib.hid (HBAS.out.trans (B28.out.mono HBAS.out.size))
      clear hb27 hW27
      obtain ⟨⟨t, te⟩, hrt⟩ : ∃ r, r = T1 (numOf n12 (ni (dig (Y0 : Int).natAbs))) := ⟨_, rfl⟩; have HRT := Lib.hid hrt; clear hrt
      have q31_0 := Lx_27.cell0
      have q31_1 := Lx_27.cell1
      have q31_2 := Lx_27.frozen 0
      have q31_3 := Lx_27.frozen 1
      have q31_lt := Lx_27.lt
      go_wp2_with fail
      have P3_5_32 := Lib.hid (HBI.out.trans (B28.out.mono HBI.out.size))
      have Ho1_33 := Lib.hid (LR.step HYL.out P3_5_32.out)
      refine (Text_any _ _ _ _ Ho1_33.out (G.step HB29.out)).mono ?_
      rintro e w30 ⟨hb30, hret⟩
      have B34 := Lib.hid hb30
      have z34 := B34.out.size
      have HB35 := Lib.hid (HB29.out.trans (B34.out.mono HB29.out.size))
      clear hb30
      clear q31_0 q31_1 q31_2 q31_3 q31_lt
      rw [← HRT.out] at hret; obtain rfl := hret; dsimp only
      have Lx_37 := LB.step Lx_27 B34.out
      have q38_0 := Lx_37.cell0
      have q38_1 := Lx_37.cell1
      have q38_2 := Lx_37.frozen 0
      have q38_3 := Lx_37.frozen 1
      have q38_lt := Lx_37.lt
      go_wp2_with fail
      have Ho1_39 := Lib.hid (LR.step Ho1_33.out B34.out)
      refine (RText_any _ _ _ _ Ho1_39.out).mono ?_
      rintro e w36 ⟨hb36, hret⟩
      have B40 := Lib.hid hb36
      have z40 := B40.out.size
      have HB41 := Lib.hid (HB35.out.trans (B40.out.mono HB35.out.size))
      clear hb36
      clear q38_0 q38_1 q38_2 q38_3 q38_lt
      rw [← HRT.out] at hret; obtain rfl := hret; dsimp only
      have P3_6_42 := Lib.hid (P3_5_32.out.trans (B34.out.mono P3_5_32.out.size))
      have P3_7_43 := Lib.hid (P3_6_42.out.trans (B40.out.mono P3_6_42.out.size))
      go_wp2
      go_roundw
      case rel => exact ⟨2, by omega, rfl, P3_7_43⟩
      case measure => simp [intOf]
    · skip
      rw [show ((2 : Nat) : Int) = 2 from rfl]
      clear i0 i1
      have P2_4_46 := Lib.hid (B8.out.trans (HBI.out.mono B8.out.size))
      have Ldraft_45 := CB.step Ldraft_5 P2_4_46.out
      have q47_0 := Ldraft_45.cell 0 rfl
      have q47_1 := Ldraft_45.cell 1 rfl
      have q47_2 := Ldraft_45.cell 2 rfl
      have q47_lt := Ldraft_45.lt
      go_wp2_with fail
      have Hsd_48 := Lib.hid (RW.step Hsd_7.out P2_4_46.out)
      refine (Long_any _ nd ld _ wd hd0 hd1 Hsd_48.out).mono ?_
      rintro e w44 ⟨hb44, v3, rfl, hv3⟩
      have B49 := Lib.hid hb44
      have z49 := B49.out.size
      have HB50 := Lib.hid (HBAS.out.trans (B49.out.mono HBAS.out.size))
      clear hb44
      clear q47_0 q47_1 q47_2 q47_lt
      rw [hY.out] at hv3
      obtain ⟨n51, Ad51, l51, c51, rfl, hv51⟩ := hv3.opened
      have Hy_51 := Lib.hid hv51
      clear hv3 hv51
      go_wp2_with fail
      refine (RDecimal_any _ _ Y0 Hy_51.out (by have := hlY0.out; unfold Len at this; omega)).mono ?_
      rintro e w53 ⟨hb53, told, rfl, htold⟩
      have B54 := Lib.hid hb53
      have z54 := B54.out.size
      have HB55 := Lib.hid (HB50.out.trans (B54.out.mono HB50.out.size))
      clear hb53
      have hts : told.size ≤ 6000 := by rw [Lib.size_eq, htold]; have h1 := (dd_len_dig Y0.natAbs 600 (by omega)).2 (hlY0.out.fit (by omega)); rw [← bare_itoa] at h1; have h2 := bare_len2 (Lib.itoa Y0); omega
      clear htold
      obtain ⟨M, hM⟩ : ∃ M : Nat, M = told.size := ⟨_, rfl⟩
      obtain ⟨K, hK⟩ : ∃ K : Nat, K = at_.toNat % (M + 1) := ⟨_, rfl⟩
      have hKl : K ≤ M := by rw [hK]; exact Nat.lt_succ_iff.1 (Nat.mod_lt _ (Nat.succ_pos _))
      have hKe : (at_ % ((told.size : Int) + 1)) = (K : Int) := by rw [hK, ← hM]; exact mod_nat ha0 M
      go_upto_region 13 with (fail)
      rw [hKe]
      have hK0 : (0 : Int) ≤ (K : Int) := by omega
      have hK1 : (K : Int) ≤ (told.size : Int) := by omega
      have hS0 := HS.out; unfold maxLen at hS0
      have hmn1 : ¬ 9223372036854775807 < min K told.size + 1 := by omega
      have hmn2 : ¬ 9223372036854775807 < min K told.size + 1 + (told.size - K) := by omega
      have hmn3 : 0 ≤ min (↑s.size) (600 : Int) := by omega
      have hmn4 : min (↑s.size) (600 : Int) ≤ ↑s.size := by omega
      clear hKe hK hKl hM M
      have hcv := conv_one w53 cc
      go_region_with (fail)
      all_goals
        clear hcv hmn1 hmn2 hmn3 hmn4 hK0 hK1
        simp only [Exit.then, Act.put, List.getElem_toArray, List.getElem_cons_zero, List.getElem_cons_succ, List.setIfInBounds_toArray, List.set_cons_zero, List.set_cons_succ]
        obtain ⟨wq, hwq⟩ : ∃ wq : World, wq = (w53.alloc (.cells #[.int .u8 (cc.toNat : Int)] 5)).drew := ⟨_, rfl⟩
        rw [← hwq]
        have hbq : Below w53.heap.size w53 wq := by rw [hwq]; exact below_drew1 (below_alloc1 (Below.refl _ _) _)
        clear hwq
        have B56 := Lib.hid hbq
        have z56 := B56.out.size
        have HB57 := Lib.hid (HB55.out.trans (B56.out.mono HB55.out.size))
        have HENQ := Lib.hid HB57.out
        have i0 := idx4_0
        have i1 := idx4_1
        have i2 := idx4_2
        have i3 := idx4_3
        go_wp2
        go_loopw [84] (fun i wr => ∃ j : Nat, j ≤ 4 ∧ i = .int .i64 j ∧ Hid (Below wq.heap.size wq wr)) (fun i _ => 4 - (intOf i).toNat)
        case atStart => exact ⟨0, by omega, rfl, Lib.hid (Below.refl _ _)⟩
        case round =>
          obtain ⟨j, hj, rfl, HBI⟩ := hrel
          have zi2 := HBI.out.size
          have HBAS := Lib.hid (HENQ.out.trans (HBI.out.mono HENQ.out.size))
          have hj3 : j = 0 ∨ j = 1 ∨ j = 2 ∨ j = 3 ∨ j = 4 := by omega
          rcases hj3 with rfl | rfl | rfl | rfl | rfl
          · skip
            rw [show ((0 : Nat) : Int) = 0 from rfl]
            go_wp2_with fail
            refine (Parse_any _ _ ?_).mono ?_
            · (simp only [ByteArray.size_extract]; omega)
            rintro e wp1 ⟨hbp1, hret⟩
            generalize hpr : parseZ _ = r at hret
            obtain ⟨z, ze⟩ := r
            have HPR := Lib.hid hpr; clear hpr
            obtain ⟨vz, rfl, hvz⟩ := hret; replace hvz : LV wp1 wp1.heap.size vz z := hvz
            have B59 := Lib.hid hbp1
            have z59 := B59.out.size
            have HB60 := Lib.hid (HBAS.out.trans (B59.out.mono HBAS.out.size))
            clear hbp1
            obtain ⟨n61, Ad61, l61, c61, rfl, hv61⟩ := hvz.opened
            have Hp_61 := Lib.hid hv61
            clear hvz hv61
            go_wp2_with fail
            obtain ⟨w62, hW62⟩ : ∃ w62 : World, w62 = (wp1.alloc (.cells #[.bool n61, .slice Ad61 l61 c61] 24)) := ⟨_, rfl⟩
            rw [← hW62]
            have hb62 : Below wp1.heap.size wp1 w62 := by rw [hW62]; (repeat' (first | exact Below.refl _ _ | refine Below.drew ?_ | refine Below.alloc ?_ (by first | exact Nat.le_refl _ | (simp; done) | (simp; omega)) _))
            have Lp_62 : LB w62 (wp1.heap.size) (.bool n61) (.slice Ad61 l61 c61) := by rw [hW62]; (repeat (first | (refine LB.new' ?_; simp; done) | refine LB.alloc ?_ _))
            have za62 : wp1.heap.size + 1 ≤ w62.heap.size := by rw [hW62]; simp
            have B63 := Lib.hid hb62
            have z63 := B63.out.size
            have HB64 := Lib.hid (HB60.out.trans (B63.out.mono HB60.out.size))
            clear hb62 hW62
            refine (RParse_any _ _ ?_).mono ?_
            · (simp only [ByteArray.size_extract]; omega)
            rintro e wp2 ⟨hbp2, hret⟩
            rw [HPR.out] at hret
            obtain ⟨vz, rfl, hvz⟩ := hret; replace hvz : LV wp2 wp2.heap.size vz z := hvz
            have B65 := Lib.hid hbp2
            have z65 := B65.out.size
            have HB66 := Lib.hid (HB64.out.trans (B65.out.mono HB64.out.size))
            clear hbp2
            obtain ⟨n67, Ad67, l67, c67, rfl, hv67⟩ := hvz.opened
            have Hq_67 := Lib.hid hv67
            clear hvz hv67
            have Lp_68 := LB.step Lp_62 B65.out
            have q69_0 := Lp_68.cell0
            have q69_1 := Lp_68.cell1
            have q69_2 := Lp_68.frozen 0
            have q69_3 := Lp_68.frozen 1
            have q69_lt := Lp_68.lt
            go_wp2_with fail
            obtain ⟨w70, hW70⟩ : ∃ w70 : World, w70 = (wp2.alloc (.cells #[.bool n67, .slice Ad67 l67 c67] 24)) := ⟨_, rfl⟩
            rw [← hW70]
            have hb70 : Below wp2.heap.size wp2 w70 := by rw [hW70]; (repeat' (first | exact Below.refl _ _ | refine Below.drew ?_ | refine Below.alloc ?_ (by first | exact Nat.le_refl _ | (simp; done) | (simp; omega)) _))
            have Lq_70 : LB w70 (wp2.heap.size) (.bool n67) (.slice Ad67 l67 c67) := by rw [hW70]; (repeat (first | (refine LB.new' ?_; simp; done) | refine LB.alloc ?_ _))
            have za70 : wp2.heap.size + 1 ≤ w70.heap.size := by rw [hW70]; simp
            have B71 := Lib.hid hb70
            have z71 := B71.out.size
            have HB72 := Lib.hid (HB66.out.trans (B71.out.mono HB66.out.size))
            clear hb70 hW70
            clear q69_0 q69_1 q69_2 q69_3 q69_lt
            have Lp_74 := LB.step Lp_68 B71.out
            have q75_0 := Lp_74.cell0
            have q75_1 := Lp_74.cell1
            have q75_2 := Lp_74.frozen 0
            have q75_3 := Lp_74.frozen 1
            have q75_lt := Lp_74.lt
            have q76_0 := Lq_70.cell0
            have q76_1 := Lq_70.cell1
            have q76_2 := Lq_70.frozen 0
            have q76_3 := Lq_70.frozen 1
            have q76_lt := Lq_70.lt
            have P9_11_77 := Lib.hid (B63.out.trans (B65.out.mono B63.out.size))
            have P9_12_78 := Lib.hid (P9_11_77.out.trans (B71.out.mono P9_11_77.out.size))
            have Hp_79 := Lib.hid (LV.step Hp_61.out P9_12_78.out)
            have Hq_80 := Lib.hid (LV.step Hq_67.out B71.out)
            refine (alike_yes _ _ _ z ze Hp_79.out Hq_80.out).mono ?_
            rintro e w73 ⟨hb73, rfl⟩
            have B81 := Lib.hid hb73
            have z81 := B81.out.size
            have HB82 := Lib.hid (HB72.out.trans (B81.out.mono HB72.out.size))
            clear hb73
            clear q75_0 q75_1 q75_2 q75_3 q75_lt q76_0 q76_1 q76_2 q76_3 q76_lt
            have P7_9_83 := Lib.hid (HBI.out.trans (B59.out.mono HBI.out.size))
            have P7_10_84 := Lib.hid (P7_9_83.out.trans (B63.out.mono P7_9_83.out.size))
            have P7_11_85 := Lib.hid (P7_10_84.out.trans (B65.out.mono P7_10_84.out.size))
            have P7_12_86 := Lib.hid (P7_11_85.out.trans (B71.out.mono P7_11_85.out.size))
            have P7_13_87 := Lib.hid (P7_12_86.out.trans (B81.out.mono P7_12_86.out.size))
            go_wp2
            go_roundw
            case rel => exact ⟨1, by omega, rfl, P7_13_87⟩
            case measure => simp [intOf]
          · skip
            rw [show ((1 : Nat) : Int) = 1 from rfl]
            go_wp2_with fail
            refine (Parse_any _ _ ?_).mono ?_
            · omega
            rintro e wp1 ⟨hbp1, hret⟩
            generalize hpr : parseZ _ = r at hret
            obtain ⟨z, ze⟩ := r
            have HPR := Lib.hid hpr; clear hpr
            obtain ⟨vz, rfl, hvz⟩ := hret; replace hvz : LV wp1 wp1.heap.size vz z := hvz
            have B89 := Lib.hid hbp1
            have z89 := B89.out.size
            have HB90 := Lib.hid (HBAS.out.trans (B89.out.mono HBAS.out.size))
            clear hbp1
            obtain ⟨n91, Ad91, l91, c91, rfl, hv91⟩ := hvz.opened
            have Hp_91 := Lib.hid hv91
            clear hvz hv91
            go_wp2_with fail
            obtain ⟨w92, hW92⟩ : ∃ w92 : World, w92 = (wp1.alloc (.cells #[.bool n91, .slice Ad91 l91 c91] 24)) := ⟨_, rfl⟩
            rw [← hW92]
            have hb92 : Below wp1.heap.size wp1 w92 := by rw [hW92]; (repeat' (first | exact Below.refl _ _ | refine Below.drew ?_ | refine Below.alloc ?_ (by first | exact Nat.le_refl _ | (simp; done) | (simp; omega)) _))
            have Lp_92 : LB w92 (wp1.heap.size) (.bool n91) (.slice Ad91 l91 c91) := by rw [hW92]; (repeat (first | (refine LB.new' ?_; simp; done) | refine LB.alloc ?_ _))
            have za92 : wp1.heap.size + 1 ≤ w92.heap.size := by rw [hW92]; simp
            have B93 := Lib.hid hb92
            have z93 := B93.out.size
            have HB94 := Lib.hid (HB90.out.trans (B93.out.mono HB90.out.size))
            clear hb92 hW92
            refine (RParse_any _ _ ?_).mono ?_
            · omega
            rintro e wp2 ⟨hbp2, hret⟩
            rw [HPR.out] at hret
            obtain ⟨vz, rfl, hvz⟩ := hret; replace hvz : LV wp2 wp2.heap.size vz z := hvz
            have B95 := Lib.hid hbp2
            have z95 := B95.out.size
            have HB96 := Lib.hid (HB94.out.trans (B95.out.mono HB94.out.size))
            clear hbp2
            obtain ⟨n97, Ad97, l97, c97, rfl, hv97⟩ := hvz.opened
            have Hq_97 := Lib.hid hv97
            clear hvz hv97
            have Lp_98 := LB.step Lp_92 B95.out
            have q99_0 := Lp_98.cell0
            have q99_1 := Lp_98.cell1
            have q99_2 := Lp_98.frozen 0
            have q99_3 := Lp_98.frozen 1
            have q99_lt := Lp_98.lt
            go_wp2_with fail
            obtain ⟨w100, hW100⟩ : ∃ w100 : World, w100 = (wp2.alloc (.cells #[.bool n97, .slice Ad97 l97 c97] 24)) := ⟨_, rfl⟩
            rw [← hW100]
            have hb100 : Below wp2.heap.size wp2 w100 := by rw [hW100]; (repeat' (first | exact Below.refl _ _ | refine Below.drew ?_ | refine Below.alloc ?_ (by first | exact Nat.le_refl _ | (simp; done) | (simp; omega)) _))
            have Lq_100 : LB w100 (wp2.heap.size) (.bool n97) (.slice Ad97 l97 c97) := by rw [hW100]; (repeat (first | (refine LB.new' ?_; simp; done) | refine LB.alloc ?_ _))
            have za100 : wp2.heap.size + 1 ≤ w100.heap.size := by rw [hW100]; simp
            have B101 := Lib.hid hb100
            have z101 := B101.out.size
            have HB102 := Lib.hid (HB96.out.trans (B101.out.mono HB96.out.size))
            clear hb100 hW100
            clear q99_0 q99_1 q99_2 q99_3 q99_lt
            have Lp_104 := LB.step Lp_98 B101.out
            have q105_0 := Lp_104.cell0
            have q105_1 := Lp_104.cell1
            have q105_2 := Lp_104.frozen 0
            have q105_3 := Lp_104.frozen 1
            have q105_lt := Lp_104.lt
            have q106_0 := Lq_100.cell0
            have q106_1 := Lq_100.cell1
            have q106_2 := Lq_100.frozen 0
            have q106_3 := Lq_100.frozen 1
            have q106_lt := Lq_100.lt
            have P9_11_107 := Lib.hid (B93.out.trans (B95.out.mono B93.out.size))
            have P9_12_108 := Lib.hid (P9_11_107.out.trans (B101.out.mono P9_11_107.out.size))
            have Hp_109 := Lib.hid (LV.step Hp_91.out P9_12_108.out)
            have Hq_110 := Lib.hid (LV.step Hq_97.out B101.out)
            refine (alike_yes _ _ _ z ze Hp_109.out Hq_110.out).mono ?_
            rintro e w103 ⟨hb103, rfl⟩
            have B111 := Lib.hid hb103
            have z111 := B111.out.size
            have HB112 := Lib.hid (HB102.out.trans (B111.out.mono HB102.out.size))
            clear hb103
            clear q105_0 q105_1 q105_2 q105_3 q105_lt q106_0 q106_1 q106_2 q106_3 q106_lt
            have P7_9_113 := Lib.hid (HBI.out.trans (B89.out.mono HBI.out.size))
            have P7_10_114 := Lib.hid (P7_9_113.out.trans (B93.out.mono P7_9_113.out.size))
            have P7_11_115 := Lib.hid (P7_10_114.out.trans (B95.out.mono P7_10_114.out.size))
            have P7_12_116 := Lib.hid (P7_11_115.out.trans (B101.out.mono P7_11_115.out.size))
            have P7_13_117 := Lib.hid (P7_12_116.out.trans (B111.out.mono P7_12_116.out.size))
            go_wp2
            go_roundw
            case rel => exact ⟨2, by omega, rfl, P7_13_117⟩
            case measure => simp [intOf]
          · skip
            rw [show ((2 : Nat) : Int) = 2 from rfl]
            go_wp2_with fail
            refine (Parse_any _ _ ?_).mono ?_
            · (simp only [ByteArray.size_append, ByteArray.size_extract, one_size]; omega)
            rintro e wp1 ⟨hbp1, hret⟩
            generalize hpr : parseZ _ = r at hret
            obtain ⟨z, ze⟩ := r
            have HPR := Lib.hid hpr; clear hpr
            obtain ⟨vz, rfl, hvz⟩ := hret; replace hvz : LV wp1 wp1.heap.size vz z := hvz
            have B119 := Lib.hid hbp1
            have z119 := B119.out.size
            have HB120 := Lib.hid (HBAS.out.trans (B119.out.mono HBAS.out.size))
            clear hbp1
            obtain ⟨n121, Ad121, l121, c121, rfl, hv121⟩ := hvz.opened
            have Hp_121 := Lib.hid hv121
            clear hvz hv121
            go_wp2_with fail
            obtain ⟨w122, hW122⟩ : ∃ w122 : World, w122 = (wp1.alloc (.cells #[.bool n121, .slice Ad121 l121 c121] 24)) := ⟨_, rfl⟩
            rw [← hW122]
            have hb122 : Below wp1.heap.size wp1 w122 := by rw [hW122]; (repeat' (first | exact Below.refl _ _ | refine Below.drew ?_ | refine Below.alloc ?_ (by first | exact Nat.le_refl _ | (simp; done) | (simp; omega)) _))
            have Lp_122 : LB w122 (wp1.heap.size) (.bool n121) (.slice Ad121 l121 c121) := by rw [hW122]; (repeat (first | (refine LB.new' ?_; simp; done) | refine LB.alloc ?_ _))
            have za122 : wp1.heap.size + 1 ≤ w122.heap.size := by rw [hW122]; simp
            have B123 := Lib.hid hb122
            have z123 := B123.out.size
            have HB124 := Lib.hid (HB120.out.trans (B123.out.mono HB120.out.size))
            clear hb122 hW122
            refine (RParse_any _ _ ?_).mono ?_
            · (simp only [ByteArray.size_append, ByteArray.size_extract, one_size]; omega)
            rintro e wp2 ⟨hbp2, hret⟩
            rw [HPR.out] at hret
            obtain ⟨vz, rfl, hvz⟩ := hret; replace hvz : LV wp2 wp2.heap.size vz z := hvz
            have B125 := Lib.hid hbp2
            have z125 := B125.out.size
            have HB126 := Lib.hid (HB124.out.trans (B125.out.mono HB124.out.size))
            clear hbp2
            obtain ⟨n127, Ad127, l127, c127, rfl, hv127⟩ := hvz.opened
            have Hq_127 := Lib.hid hv127
            clear hvz hv127
            have Lp_128 := LB.step Lp_122 B125.out
            have q129_0 := Lp_128.cell0
            have q129_1 := Lp_128.cell1
            have q129_2 := Lp_128.frozen 0
            have q129_3 := Lp_128.frozen 1
            have q129_lt := Lp_128.lt
            go_wp2_with fail
            obtain ⟨w130, hW130⟩ : ∃ w130 : World, w130 = (wp2.alloc (.cells #[.bool n127, .slice Ad127 l127 c127] 24)) := ⟨_, rfl⟩
            rw [← hW130]
            have hb130 : Below wp2.heap.size wp2 w130 := by rw [hW130]; (repeat' (first | exact Below.refl _ _ | refine Below.drew ?_ | refine Below.alloc ?_ (by first | exact Nat.le_refl _ | (simp; done) | (simp; omega)) _))
            have Lq_130 : LB w130 (wp2.heap.size) (.bool n127) (.slice Ad127 l127 c127) := by rw [hW130]; (repeat (first | (refine LB.new' ?_; simp; done) | refine LB.alloc ?_ _))
            have za130 : wp2.heap.size + 1 ≤ w130.heap.size := by rw [hW130]; simp
            have B131 := Lib.hid hb130
            have z131 := B131.out.size
            have HB132 := Lib.hid (HB126.out.trans (B131.out.mono HB126.out.size))
            clear hb130 hW130
            clear q129_0 q129_1 q129_2 q129_3 q129_lt
            have Lp_134 := LB.step Lp_128 B131.out
            have q135_0 := Lp_134.cell0
            have q135_1 := Lp_134.cell1
            have q135_2 := Lp_134.frozen 0
            have q135_3 := Lp_134.frozen 1
            have q135_lt := Lp_134.lt
            have q136_0 := Lq_130.cell0
            have q136_1 := Lq_130.cell1
            have q136_2 := Lq_130.frozen 0
            have q136_3 := Lq_130.frozen 1
            have q136_lt := Lq_130.lt
            have P9_11_137 := Lib.hid (B123.out.trans (B125.out.mono B123.out.size))
            have P9_12_138 := Lib.hid (P9_11_137.out.trans (B131.out.mono P9_11_137.out.size))
            have Hp_139 := Lib.hid (LV.step Hp_121.out P9_12_138.out)
            have Hq_140 := Lib.hid (LV.step Hq_127.out B131.out)
            refine (alike_yes _ _ _ z ze Hp_139.out Hq_140.out).mono ?_
            rintro e w133 ⟨hb133, rfl⟩
            have B141 := Lib.hid hb133
            have z141 := B141.out.size
            have HB142 := Lib.hid (HB132.out.trans (B141.out.mono HB132.out.size))
            clear hb133
            clear q135_0 q135_1 q135_2 q135_3 q135_lt q136_0 q136_1 q136_2 q136_3 q136_lt
            have P7_9_143 := Lib.hid (HBI.out.trans (B119.out.mono HBI.out.size))
            have P7_10_144 := Lib.hid (P7_9_143.out.trans (B123.out.mono P7_9_143.out.size))
            have P7_11_145 := Lib.hid (P7_10_144.out.trans (B125.out.mono P7_10_144.out.size))
            have P7_12_146 := Lib.hid (P7_11_145.out.trans (B131.out.mono P7_11_145.out.size))
            have P7_13_147 := Lib.hid (P7_12_146.out.trans (B141.out.mono P7_12_146.out.size))
            go_wp2
            go_roundw
            case rel => exact ⟨3, by omega, rfl, P7_13_147⟩
            case measure => simp [intOf]
          · skip
            rw [show ((3 : Nat) : Int) = 3 from rfl]
            go_wp2_with fail
            refine (Parse_any _ _ ?_).mono ?_
            · (simp only [ByteArray.size_extract]; omega)
            rintro e wp1 ⟨hbp1, hret⟩
            generalize hpr : parseZ _ = r at hret
            obtain ⟨z, ze⟩ := r
            have HPR := Lib.hid hpr; clear hpr
            obtain ⟨vz, rfl, hvz⟩ := hret; replace hvz : LV wp1 wp1.heap.size vz z := hvz
            have B149 := Lib.hid hbp1
            have z149 := B149.out.size
            have HB150 := Lib.hid (HBAS.out.trans (B149.out.mono HBAS.out.size))
            clear hbp1
            obtain ⟨n151, Ad151, l151, c151, rfl, hv151⟩ := hvz.opened
            have Hp_151 := Lib.hid hv151
            clear hvz hv151
            go_wp2_with fail
            obtain ⟨w152, hW152⟩ : ∃ w152 : World, w152 = (wp1.alloc (.cells #[.bool n151, .slice Ad151 l151 c151] 24)) := ⟨_, rfl⟩
            rw [← hW152]
            have hb152 : Below wp1.heap.size wp1 w152 := by rw [hW152]; (repeat' (first | exact Below.refl _ _ | refine Below.drew ?_ | refine Below.alloc ?_ (by first | exact Nat.le_refl _ | (simp; done) | (simp; omega)) _))
            have Lp_152 : LB w152 (wp1.heap.size) (.bool n151) (.slice Ad151 l151 c151) := by rw [hW152]; (repeat (first | (refine LB.new' ?_; simp; done) | refine LB.alloc ?_ _))
            have za152 : wp1.heap.size + 1 ≤ w152.heap.size := by rw [hW152]; simp
            have B153 := Lib.hid hb152
            have z153 := B153.out.size
            have HB154 := Lib.hid (HB150.out.trans (B153.out.mono HB150.out.size))
            clear hb152 hW152
            refine (RParse_any _ _ ?_).mono ?_
            · (simp only [ByteArray.size_extract]; omega)
            rintro e wp2 ⟨hbp2, hret⟩
            rw [HPR.out] at hret
            obtain ⟨vz, rfl, hvz⟩ := hret; replace hvz : LV wp2 wp2.heap.size vz z := hvz
            have B155 := Lib.hid hbp2
            have z155 := B155.out.size
            have HB156 := Lib.hid (HB154.out.trans (B155.out.mono HB154.out.size))
            clear hbp2
            obtain ⟨n157, Ad157, l157, c157, rfl, hv157⟩ := hvz.opened
            have Hq_157 := Lib.hid hv157
            clear hvz hv157
            have Lp_158 := LB.step Lp_152 B155.out
            have q159_0 := Lp_158.cell0
            have q159_1 := Lp_158.cell1
            have q159_2 := Lp_158.frozen 0
            have q159_3 := Lp_158.frozen 1
            have q159_lt := Lp_158.lt
            go_wp2_with fail
            obtain ⟨w160, hW160⟩ : ∃ w160 : World, w160 = (wp2.alloc (.cells #[.bool n157, .slice Ad157 l157 c157] 24)) := ⟨_, rfl⟩
            rw [← hW160]
            have hb160 : Below wp2.heap.size wp2 w160 := by rw [hW160]; (repeat' (first | exact Below.refl _ _ | refine Below.drew ?_ | refine Below.alloc ?_ (by first | exact Nat.le_refl _ | (simp; done) | (simp; omega)) _))
            have Lq_160 : LB w160 (wp2.heap.size) (.bool n157) (.slice Ad157 l157 c157) := by rw [hW160]; (repeat (first | (refine LB.new' ?_; simp; done) | refine LB.alloc ?_ _))
            have za160 : wp2.heap.size + 1 ≤ w160.heap.size := by rw [hW160]; simp
            have B161 := Lib.hid hb160
            have z161 := B161.out.size
            have HB162 := Lib.hid (HB156.out.trans (B161.out.mono HB156.out.size))
            clear hb160 hW160
            clear q159_0 q159_1 q159_2 q159_3 q159_lt
            have Lp_164 := LB.step Lp_158 B161.out
            have q165_0 := Lp_164.cell0
            have q165_1 := Lp_164.cell1
            have q165_2 := Lp_164.frozen 0
            have q165_3 := Lp_164.frozen 1
            have q165_lt := Lp_164.lt
            have q166_0 := Lq_160.cell0
            have q166_1 := Lq_160.cell1
            have q166_2 := Lq_160.frozen 0
            have q166_3 := Lq_160.frozen 1
            have q166_lt := Lq_160.lt
            have P9_11_167 := Lib.hid (B153.out.trans (B155.out.mono B153.out.size))
            have P9_12_168 := Lib.hid (P9_11_167.out.trans (B161.out.mono P9_11_167.out.size))
            have Hp_169 := Lib.hid (LV.step Hp_151.out P9_12_168.out)
            have Hq_170 := Lib.hid (LV.step Hq_157.out B161.out)
            refine (alike_yes _ _ _ z ze Hp_169.out Hq_170.out).mono ?_
            rintro e w163 ⟨hb163, rfl⟩
            have B171 := Lib.hid hb163
            have z171 := B171.out.size
            have HB172 := Lib.hid (HB162.out.trans (B171.out.mono HB162.out.size))
            clear hb163
            clear q165_0 q165_1 q165_2 q165_3 q165_lt q166_0 q166_1 q166_2 q166_3 q166_lt
            have P7_9_173 := Lib.hid (HBI.out.trans (B149.out.mono HBI.out.size))
            have P7_10_174 := Lib.hid (P7_9_173.out.trans (B153.out.mono P7_9_173.out.size))
            have P7_11_175 := Lib.hid (P7_10_174.out.trans (B155.out.mono P7_10_174.out.size))
            have P7_12_176 := Lib.hid (P7_11_175.out.trans (B161.out.mono P7_11_175.out.size))
            have P7_13_177 := Lib.hid (P7_12_176.out.trans (B171.out.mono P7_12_176.out.size))
            go_wp2
            go_roundw
            case rel => exact ⟨4, by omega, rfl, P7_13_177⟩
            case measure => simp [intOf]
          · skip
            rw [show ((4 : Nat) : Int) = 4 from rfl]
            go_wp2
            go_ret
            exact ⟨HBAS.out, rfl⟩
end Go.Proofs.YtnbanlmkoljghaaGreatDoor
