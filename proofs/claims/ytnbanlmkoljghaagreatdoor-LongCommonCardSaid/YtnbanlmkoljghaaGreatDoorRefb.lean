/- Texts put together: The reference's Prod at any two numbers. The reference's taken: b is taken from the rest as often as it is in it; the rest is a row of its own. The reference's Parts at any two numbers, the second not 0. The reference's Common at any two numbers. The reference's Cmp, Mul, Gcd, Div at any two Longs (written by gen_rbin.py). The reference's Of. The reference's Root and Sqrt (written by gen_rroot.py). The reference's Sqrt at any Long (written by gen_rtext.py). Rows of bytes of a call's own; make([]byte, n); string(b). -/
import Derived.Test.YtnbanlmkoljghaaGreatDoorOps
import Derived.Test.YtnbanlmkoljghaaGreatDoorLow
import Derived.Deep.QuietTactic
import Derived.BigQuiet
import Derived.Test.YtnbanlmkoljghaaGreatDoorRef
import Derived.Deep.DeepCutAuto
import Derived.Deep.CutBlock
import Derived.Deep.LoopGhost
import Derived.Laws.AppendOwnNone
import Derived.Deep.RegionWith
import Derived.WalkSmall
import Derived.Laws.BytesArg
import Derived.Lib.UnsafeStr
/- The reference's Prod at any two numbers. -/
namespace Go.Proofs.YtnbanlmkoljghaaGreatDoor
open Go Go.RowKit Dig

theorem sgn_mul (x y : Int) : sgn (!(decide (x < 0) == decide (y < 0))) (val (dig x.natAbs) * val (dig y.natAbs)) = x * y := by
  rw [val_dig, val_dig]
  exact mul_sign x y

set_option maxRecDepth 100000 in
set_option maxHeartbeats 4000000 in
theorem RProd_any (w : World) (va vb : Value) (x y : Int) (ha : LV w w.heap.size va x) (hb : LV w w.heap.size vb y) (hlx : (dig x.natAbs).length ≤ 100000) (hly : (dig y.natAbs).length ≤ 100000) :
    Calls Tryz.prog 27 #[va, vb] w fun e w' => Below w.heap.size w w' ∧ RetV w' (x * y) e := by
  obtain ⟨A1, c1, rfl, hsa⟩ := ha.parts
  obtain ⟨A2, c2, rfl, hsb⟩ := hb.parts
  have hz := sgn_mul x y
  have HSX := Lib.hid (dig_small x.natAbs)
  have HSY := Lib.hid (dig_small y.natAbs)
  clear ha hb
  generalize dig x.natAbs = X at *
  generalize dig y.natAbs = Y at *
  generalize decide (x < 0) = na at *
  generalize decide (y < 0) = nb at *
  generalize x * y = z at *
  have HZ := Lib.hid hz
  have hmk := mk_ints (X.length + Y.length) (by omega)
  simp only [Int.natCast_add] at hmk
  obtain ⟨w0, hw0⟩ : ∃ w0 : World, w0 = ((w.alloc (.cells #[.bool na, .slice A1 X.length c1] 24)).alloc (.cells #[.bool nb, .slice A2 Y.length c2] 24)).alloc (.cells #[.bool false, .slice none 0 0] 24) := ⟨_, rfl⟩
  have hb0 : Below w.heap.size w w0 := by rw [hw0]; (repeat' (first | exact Below.refl _ _ | refine Below.drew ?_ | refine Below.alloc ?_ (by first | exact Nat.le_refl _ | (simp; done) | (simp; omega)) _))
  have L0 : LB w0 w.heap.size (.bool na) (.slice A1 X.length c1) := by rw [hw0]; (repeat (first | (refine LB.new' ?_; simp; done) | refine LB.alloc ?_ _))
  have L1 : LB w0 (w.heap.size + 1) (.bool nb) (.slice A2 Y.length c2) := by rw [hw0]; (repeat (first | (refine LB.new' ?_; simp; done) | refine LB.alloc ?_ _))
  have L2 : LB w0 (w.heap.size + 2) (.bool false) (.slice none 0 0) := by rw [hw0]; (repeat (first | (refine LB.new' ?_; simp; done) | refine LB.alloc ?_ _))
  have hsz0 : w0.heap.size = w.heap.size + 3 := by rw [hw0]; simp
  have HA := Lib.hid (show RN w w.heap.size _ X from hsa)
  have HB := Lib.hid (show RN w w.heap.size _ Y from hsb)
  replace hw0 := Lib.hid hw0
  clear hz hsa hsb
  go_enter Tryz.func27, Tryz.ntmps27
  go_wp2
  rw [← hw0.out]
  have hb1 := hb0.alloc hb0.size (zerosObj (X.length + Y.length))
  have M0 := L0.alloc (zerosObj (X.length + Y.length))
  have M1 := L1.alloc (zerosObj (X.length + Y.length))
  have M2 := L2.alloc (zerosObj (X.length + Y.length))
  have ho := own_new w0 (X.length + Y.length)
  rw [hsz0] at ho
  clear L0 L1 L2 hb0 hsz0 hw0 hmk
  generalize (w0.alloc (zerosObj (X.length + Y.length))) = w1 at *
  have hP := Lib.hid (ProdI.start X Y 0)
  go_loopw [6] (fun iv wr => ∃ (i : Nat) (d : List Int), i ≤ X.length ∧ iv = .int .i64 i ∧ Hid (ProdI (prodT X Y i 0) (X.length + Y.length) 0 0 d) ∧ LB wr w.heap.size (.bool na) (.slice A1 X.length c1) ∧ LB wr (w.heap.size + 1) (.bool nb) (.slice A2 Y.length c2) ∧ LB wr (w.heap.size + 2) (.bool false) (.slice none 0 0) ∧ Hid (Below w.heap.size w wr) ∧ Own wr (w.heap.size + 3) d) (fun iv _ => X.length - (intOf iv).toNat)
  case atStart => exact ⟨0, _, by omega, rfl, hP, M0, M1, M2, Lib.hid hb1, ho⟩
  case round =>
    clear hb1 ho hP M0 M1 M2
    obtain ⟨i, d, hi, rfl, hP, M0, M1, M2, HBW, ho⟩ := hrel
    have q00 := M0.cell0; have q01 := M0.cell1; have q10 := M1.cell0; have q11 := M1.cell1; have q20 := M2.cell0; have q21 := M2.cell1; have q22 := M2.frozen 0; have q23 := M2.frozen 1
    by_cases hlt : i < X.length
    · obtain ⟨xi, hxi⟩ : ∃ xi, xi = X.getD i 0 := ⟨_, rfl⟩
      have hx9 : xi < 1000000000 := by rw [hxi]; exact HSX.out.getD i
      have HXI := Lib.hid hxi
      clear hxi
      obtain ⟨wo, hwo⟩ : ∃ wo : World, wo = wr := ⟨_, rfl⟩
      subst hwo
      go_wp2
      clear q00 q01 q10 q11 q20 q21 q22 q23
      go_loopw [7] (fun kv wr => ∃ (k : Nat) (d : List Int), k ≤ Y.length ∧ kv = .int .i64 k ∧ Hid (ProdI (prodT X Y i k) (X.length + Y.length) 0 0 d) ∧ LB wr w.heap.size (.bool na) (.slice A1 X.length c1) ∧ LB wr (w.heap.size + 1) (.bool nb) (.slice A2 Y.length c2) ∧ LB wr (w.heap.size + 2) (.bool false) (.slice none 0 0) ∧ Hid (Below w.heap.size w wr) ∧ Own wr (w.heap.size + 3) d) (fun kv _ => Y.length - (intOf kv).toNat)
      case atStart => exact ⟨0, _, by omega, rfl, hP, M0, M1, M2, HBW, ho⟩
      case round =>
        clear ho hP M0 M1 M2 HBW
        obtain ⟨k, d, hk, rfl, hP, M0, M1, M2, HBW, ho⟩ := hrel
        have q00 := M0.cell0; have q01 := M0.cell1; have q10 := M1.cell0; have q11 := M1.cell1; have q20 := M2.cell0; have q21 := M2.cell1; have q22 := M2.frozen 0; have q23 := M2.frozen 1
        by_cases hlt2 : k < Y.length
        · obtain ⟨yk, hyk⟩ : ∃ yk, yk = Y.getD k 0 := ⟨_, rfl⟩
          have hy9 : yk < 1000000000 := by rw [hyk]; exact HSY.out.getD k
          obtain ⟨g1, o1, rfl, hx⟩ := (HA.out.below HBW.out).digit hlt
          obtain ⟨g2, o2, rfl, hy⟩ := (HB.out.below HBW.out).digit hlt2
          rw [← HXI.out] at hx
          rw [← hyk] at hy
          have HP1 := Lib.hid (hP.out.begin hlt2)
          have HPT := Lib.hid (prodT_lt (k := k + 1) HSX.out HSY.out hlt)
          rw [← HXI.out, ← hyk] at HP1
          clear hyk hP
          have hmul : xi * yk ≤ 999999999 * 999999999 := Nat.mul_le_mul (by omega) (by omega)
          have hm1 : (xi : Int) * (yk : Int) ≤ 999999999 * 999999999 := by rw [← Int.natCast_mul]; omega
          have hm0 : 0 ≤ (xi : Int) * (yk : Int) := by rw [← Int.natCast_mul]; omega
          obtain ⟨p, hp⟩ : ∃ p : Nat, p = xi * yk := ⟨_, rfl⟩
          have HPP := Lib.hid (show (xi : Int) * (yk : Int) = (p : Int) by rw [hp]; simp)
          rw [← hp] at HP1
          have hp18 : p ≤ 1000000000000000000 := by omega
          clear hp hmul
          go_wp2
          go_quiet (fail)
          go_wp2
          rw [HPP.out]
          clear hm0 hm1 hx hy q00 q01 q10 q11 q20 q21 q22 q23
          obtain ⟨wo2, hwo2⟩ : ∃ wo2 : World, wo2 = wr.drewN nq := ⟨_, rfl⟩
          rw [← hwo2]
          replace M0 : LB wo2 _ _ _ := hwo2 ▸ M0.drewN nq
          replace M1 : LB wo2 _ _ _ := hwo2 ▸ M1.drewN nq
          replace M2 : LB wo2 _ _ _ := hwo2 ▸ M2.drewN nq
          replace ho : Own wo2 _ _ := hwo2 ▸ ho.drewN nq
          replace HBW : Hid (Below w.heap.size w wo2) := Lib.hid (hwo2 ▸ below_drewN HBW.out nq)
          clear hwo2
          go_loopw [8, 9] (fun nv jv wr => ∃ (n j : Nat) (d : List Int), nv = .int .i64 n ∧ jv = .int .i64 j ∧ n ≤ 1000000000000000000 ∧ j ≤ 200001 ∧ Hid (ProdI (prodT X Y i (k + 1)) (X.length + Y.length) j n d) ∧ LB wr w.heap.size (.bool na) (.slice (some ⟨g1, o1, none⟩) X.length c1) ∧ LB wr (w.heap.size + 1) (.bool nb) (.slice (some ⟨g2, o2, none⟩) Y.length c2) ∧ LB wr (w.heap.size + 2) (.bool false) (.slice none 0 0) ∧ Hid (Below w.heap.size w wr) ∧ Own wr (w.heap.size + 3) d) (fun _ jv _ => 200001 - (intOf jv).toNat)
          case atStart => exact ⟨p, i + k, _, rfl, by go_num, by omega, by omega, HP1, M0, M1, M2, HBW, ho⟩
          case round =>
            clear ho HP1 M0 M1 M2 HBW
            obtain ⟨n, j, d, rfl, rfl, hn, hj, hP, M0, M1, M2, HBW, ho⟩ := hrel
            by_cases hn0 : 0 < n
            · have hjL := hP.out.room HPT.out hn0
              have hlen := Lib.hid hP.out.len
              have h2 := own_at ho j (by have := hlen.out; omega)
              obtain ⟨o, hoo⟩ : ∃ o : Nat, at0 d j = (o : Int) := ⟨(at0 d j).toNat, by have := hP.out.small j hjL; omega⟩
              have ho9 : o < 1000000000 := by have := hP.out.small j hjL; omega
              have HS := Lib.hid (hP.out.step hjL o hoo)
              rw [hoo] at h2
              have hf := ho.frozen j
              have HO := Lib.hid ho
              have hn0i : (0 : Int) < (n : Int) := by omega
              have hjLi : (j : Int) < (X.length : Int) + (Y.length : Int) := by omega
              clear ho hoo hP
              go_wp2
              go_roundw
              case rel =>
                have e : (((n + o) % 1000000000 : Nat) : Int) = ((n : Int) + (o : Int)) % 1000000000 := by omega
                have h4 := HO.out.set j (((n + o) % 1000000000 : Nat) : Int) (by have := hlen.out; omega)
                have h5 := HS.out
                rw [e] at h4 h5
                exact ⟨(n + o) / 1000000000, j + 1, _, by go_num, by go_num, by omega, by omega, Lib.hid h5, M0.far (p := ⟨w.heap.size + 3, j, none⟩) (by simp) _, M1.far (p := ⟨w.heap.size + 3, j, none⟩) (by simp) _, M2.far (p := ⟨w.heap.size + 3, j, none⟩) (by simp) _, Lib.hid (HBW.out.setCell (p := ⟨w.heap.size + 3, j, none⟩) (by simp) _), h4⟩
              case measure => simp [intOf]; omega
            · obtain rfl : n = 0 := by omega
              have HP2 := Lib.hid (hP.out.any 0)
              clear hP
              go_wp2
              go_roundw
              case rel => exact ⟨k + 1, _, by omega, by go_num, HP2, M0, M1, M2, HBW, ho⟩
              case measure => simp [intOf]; omega
        · obtain rfl : k = Y.length := by omega
          have HP2 := Lib.hid ((prodT_next (y := Y) hlt) ▸ hP.out)
          clear hP
          go_wp2
          go_roundw
          case rel => exact ⟨i + 1, _, by omega, by go_num, HP2, M0, M1, M2, HBW, ho⟩
          case measure => simp [intOf]; omega
    · obtain rfl : i = X.length := by omega
      obtain ⟨r, rfl, hrl, hrs, hrv⟩ := hP.out.fin
      have hrn := own_rn ho (X.length + Y.length) (X.length + Y.length) (by omega) (by omega) (by omega)
      have HR := Lib.hid hrn
      have HRS := Lib.hid hrs
      have HRV := Lib.hid hrv
      have HRL := Lib.hid (show r.length ≤ 1000000 by omega)
      have HO := Lib.hid ho
      clear hrn hrs hrv hrl ho hP
      go_wp2_with fail
      refine (made_any _ _ _ r HR.out HRS.out HRL.out).mono ?_
      rintro e w2 ⟨hb2, v2, rfl, hv2⟩
      rw [HRV.out, prodT_end, HZ.out] at hv2
      obtain ⟨n3, A3, l3, c3, rfl, hv3⟩ := hv2.opened
      have HV3 := Lib.hid hv3
      have N2 := M2.step hb2
      have HB2 := Lib.hid (HBW.out.trans (hb2.mono HBW.out.size))
      clear hv2 hv3 hb2 M0 M1 M2 HBW q00 q01 q10 q11 q20 q21 q22 q23
      have q20 := N2.cell0; have q21 := N2.cell1; have q22 := N2.frozen 0; have q23 := N2.frozen 1
      go_wp2
      (try simp only [Exit.inBlock, Exit.then])
      exact end_long rfl N2 HB2.out (by omega) HV3.out rfl
end Go.Proofs.YtnbanlmkoljghaaGreatDoor

/- The reference's taken: b is taken from the rest as often as it is in it; the rest is a row of its own. -/
namespace Go.Proofs.YtnbanlmkoljghaaGreatDoor
open Go Go.RowKit Dig

theorem at_int (w : World) (v : Value) (l : List Nat) (i : Int) (k : Nat) (hi : i = (k : Int)) (h : RN w w.heap.size v l) :
    Calls Tryz.prog 75 #[v, .int .i64 i] w fun e w' => Below w.heap.size w w' ∧ e = .returned (.int .i64 ((l.getD k 0 : Nat) : Int)) := by
  subst hi; exact at_num w v l k h

set_option maxRecDepth 100000 in
set_option maxHeartbeats 4000000 in
theorem RTaken_any (w : World) (B : Nat) (v vb : Value) (R b : Nat) (hB : B ≤ w.heap.size) (ho : OwnV w B v (ni (dig R))) (hb : RN w B vb (dig b)) (hb0 : b ≠ 0) (hR : R < 1000000000 * b) (hlR : (dig R).length ≤ 100000) (hlb : (dig b).length ≤ 100000) :
    Calls Tryz.prog 104 #[v, vb] w fun e w' => Below B w w' ∧ ∃ v', e = .returned (.tuple #[v', .int .i64 (R / b : Nat)]) ∧ OwnV w' B v' (ni (dig (R % b))) := by
  obtain ⟨P2, c2, rfl, -, -, -⟩ := hb.cell
  obtain ⟨top, htop⟩ : ∃ top, (dig b).length = top + 1 := ⟨(dig b).length - 1, by have := dig_len_pos hb0; omega⟩
  rw [htop] at hb hlb
  rw [htop]
  have HTOP := Lib.hid htop
  have HB := Lib.hid hb
  have HO := Lib.hid ho
  have HR0 := Lib.hid hR
  clear hb ho htop hR
  have hfd := fld_digits
  go_enter Tryz.func104, Tryz.ntmps104
  go_wp2
  go_loopg [0, 6] R (fun gk rv nv wr => ∃ (R' n : Nat) (v : Value), rv = v ∧ Hid (gk = R') ∧ nv = .int .i64 n ∧ n < 1000000000 ∧ Hid (R = n * b + R') ∧ (dig R').length ≤ 100000 ∧ Hid (OwnV wr B v (ni (dig R'))) ∧ Hid (Below B w wr))
  case atStart => exact ⟨R, 0, _, rfl, Lib.hid rfl, rfl, by omega, Lib.hid (by omega), hlR, HO, Lib.hid (Below.refl _ _)⟩
  case round =>
    obtain ⟨R', n, v, rfl, hgk, rfl, hn, hRR, hlR', hO, hBW⟩ := hrel
    have HBs := Lib.hid (Nat.le_trans hB hBW.out.size)
    by_cases hlt : R' < b
    · have HD := Lib.hid (decide_eq_true hlt)
      have HQ := Lib.hid (show (n : Nat) = R / b by rw [hRR.out, Nat.mul_comm, Nat.mul_add_div (by omega), Nat.div_eq_of_lt hlt, Nat.add_zero])
      have HM := Lib.hid (show R' = R % b by rw [hRR.out, Nat.mul_comm, Nat.mul_add_mod, Nat.mod_eq_of_lt hlt])
      clear hlt
      go_wp2_with fail
      refine (RLess_any _ _ _ R' b hO.out.ri (RN.more (HB.out.below hBW.out) HBs.out)).mono ?_
      rintro e w1 ⟨hb1, rfl⟩
      rw [HD.out]
      have HO1 := Lib.hid (hO.out.step hb1)
      have HB1 := Lib.hid (hBW.out.trans (hb1.mono HBs.out))
      clear hb1
      go_wp2
      go_ret2
      rw [← HQ.out, ← HM.out]
      exact ⟨HB1.out, _, rfl, HO1.out⟩
    · have HD := Lib.hid (decide_eq_false hlt)
      have HLT := Lib.hid (Nat.le_of_not_lt hlt)
      rcases hO.out.form with ⟨-, he⟩ | ⟨g, cap, rfl, hcap, hcap2, hgB, hown⟩
      · exact absurd he (by
          intro h0
          have h1 := ni_length (dig R')
          rw [h0] at h1
          have h2 := dig_len_pos (show R' ≠ 0 by have := HLT.out; omega)
          simp at h1; omega)
      rw [ni_length] at hcap
      rw [ni_length]
      obtain ⟨lr, hlr⟩ : ∃ lr, (dig R').length = lr := ⟨_, rfl⟩
      rw [hlr] at hcap hlR'
      rw [hlr]
      have HLR := Lib.hid hlr
      have HOW := Lib.hid hown
      have htl : top < lr := by have h1 := dig_len_mono HLT.out; have h2 := HTOP.out; omega
      clear hlt hlr hown hO
      go_wp2_with fail
      refine (RLess_any _ _ _ R' b (own_rn HOW.out _ _ HLR.out.symm hcap hcap2) (RN.more (HB.out.below hBW.out) HBs.out)).mono ?_
      rintro e w1 ⟨hb1, rfl⟩
      rw [HD.out]
      have HO1 := Lib.hid (HOW.out.step hb1)
      have HB1 := Lib.hid (hBW.out.trans (hb1.mono HBs.out))
      have HS1 := Lib.hid (Nat.le_trans HBs.out hb1.size)
      clear hb1 HOW hBW HBs
      have HR1 := Lib.hid (own_rn HO1.out lr cap HLR.out.symm hcap hcap2)
      have hRb : R' < 1000000000 * b := (by have h1 := HR0.out; have h2 := hRR.out; omega)
      obtain ⟨r0, hr0⟩ : ∃ r, r = (dig R').getD top 0 := ⟨_, rfl⟩
      obtain ⟨r1, hr1⟩ : ∃ r, r = (dig R').getD (top + 1) 0 := ⟨_, rfl⟩
      obtain ⟨bt, hbt⟩ : ∃ r, r = (dig b).getD top 0 := ⟨_, rfl⟩
      have hr09 : r0 < 1000000000 := by rw [hr0]; exact (dig_small R').getD _
      have hr19 : r1 < 1000000000 := by rw [hr1]; exact (dig_small R').getD _
      have hbt9 : bt < 1000000000 := by rw [hbt]; exact (dig_small b).getD _
      obtain ⟨k0, hk0⟩ : ∃ k, k = (r1 * 1000000000 + r0) / (bt + 1) := ⟨_, rfl⟩
      have HG := Lib.hid (guess_one (x := dig R') (dig_small b) HTOP.out (by rw [val_dig, val_dig]; exact hRb) (show k0 = _ by rw [hk0, hr0, hr1, hbt]))
      rw [val_dig, val_dig] at HG
      have hq0 : w1.cell? ⟨g, top, none⟩ = some (.int .i64 r0) := by
        have h := HR1.out.digit' (i := top) (by rw [HLR.out]; exact htl)
        rw [← hr0] at h; simpa using h
      obtain ⟨gb, ob, rfl, hq1⟩ := (RN.more (HB.out.below HB1.out) HS1.out).digit (i := top) (by rw [HTOP.out]; omega)
      rw [← hbt] at hq1
      have HHr1 := Lib.hid hr1
      have HK0 := Lib.hid (show ((r1 : Int) * 1000000000 + (r0 : Int)) / ((bt : Int) + 1) = (k0 : Int) by rw [hk0]; simp)
      clear hr0 hr1 hbt hk0 hRb
      have KS : ∀ w' : World, Below w1.heap.size w1 w' → (Below w1.heap.size w1 w' ∧ w'.cell? ⟨g, top, none⟩ = some (.int .i64 r0) ∧ w'.cell? ⟨gb, ob + top, none⟩ = some (.int .i64 bt)) := fun w' h => ⟨h, (h.cell (p := ⟨g, top, none⟩) (cell_lt hq0)).trans hq0, (h.cell (p := ⟨gb, ob + top, none⟩) (cell_lt hq1)).trans hq1⟩
      have KB : ∀ w' : World, (Below w1.heap.size w1 w' ∧ w'.cell? ⟨g, top, none⟩ = some (.int .i64 r0) ∧ w'.cell? ⟨gb, ob + top, none⟩ = some (.int .i64 bt)) → Below w1.heap.size w1 w' := fun w' h => h.1
      have htd : Int.tdiv ((r1 : Int) * 1000000000 + (r0 : Int)) ((bt : Int) + 1) = (k0 : Int) := by rw [← HK0.out]; exact Int.tdiv_eq_ediv_of_nonneg (by omega)
      have ht0 : (0 : Int) ≤ (top : Int) := by omega
      have ht1 : (top : Int) < (top : Int) + 1 := by omega
      have ht2 : (top : Int) < (lr : Int) := by omega
      have hbp : (0 : Int) < (bt : Int) + 1 := by omega
      have hbne : ((bt : Int) + 1 == 0) = false := by rw [beq_eq_false_iff_ne]; omega
      have hbz : ((bt : Int) + 1 = 0) = False := eq_false (by omega)
      have hdv : ((r1 : Int) * 1000000000 + (r0 : Int)) / ((bt : Int) + 1) = (k0 : Int) := HK0.out
      have hwa : IntKind.i64.wrap ((top : Int) + 1) = (top : Int) + 1 := IntWalk.i64_in _ (by omega)
      have hwm : IntKind.i64.wrap ((r1 : Int) * 1000000000) = (r1 : Int) * 1000000000 := IntWalk.i64_in _ (by omega)
      have hws : IntKind.i64.wrap ((r1 : Int) * 1000000000 + (r0 : Int)) = (r1 : Int) * 1000000000 + (r0 : Int) := IntWalk.i64_in _ (by omega)
      have hwd : IntKind.i64.wrap ((bt : Int) + 1) = (bt : Int) + 1 := IntWalk.i64_in _ (by omega)
      have HKK := Lib.hid (show (k0 : Int) < 1000000000 by have := HG.out.2; omega)
      have hwk : IntKind.i64.wrap (k0 : Int) = (k0 : Int) := IntWalk.i64_in _ (by have := HKK.out; omega)
      have tok1 : True := trivial
      go_wp2_with fail
      go_region_held3 (fun w' => Below w1.heap.size w1 w' ∧ w'.cell? ⟨g, top, none⟩ = some (.int .i64 r0) ∧ w'.cell? ⟨gb, ob + top, none⟩ = some (.int .i64 bt)) (first
        | (refine KS _ ?_; repeat (first | with_reducible exact KU.out | with_reducible exact Below.refl _ _ | with_reducible refine below_drew1 ?_))
        | go_keep) (first
        | (go_at_call 75; clear tok1; ((with_reducible refine (at_int _ _ (dig R') _ (top + 1) (by omega) (by exact RN.stepN HR1.out (KB _ (by assumption)))).mono ?_); rintro e u ⟨hbu, rfl⟩; rw [← HHr1.out]; have KU := Lib.hid (Below.trans (KB _ (by assumption)) (hbu.mono (KB _ (by assumption)).size)); clear hbu)))
      rename_i hheld
      have HBU := Lib.hid (HB1.out.trans (KU.out.mono HS1.out))
      have HSU := Lib.hid (Nat.le_trans HS1.out KU.out.size)
      have HOU := Lib.hid (HO1.out.step KU.out)
      clear hheld KS KB htd hbp hbne hbz hdv hwa hwm hws hwd hwk hq0 hq1 HO1 HB1 HS1 HR1 KU HHr1 HK0
      go_upto_if 36 with (fail)
      go_cut [8] (fun kv wx => ∃ K : Nat, kv = .int .i64 K ∧ 1 ≤ K ∧ K < 1000000000 ∧ Hid (K * b ≤ R') ∧ wx = u)
      case first =>
        by_cases hk : k0 = 0
        · have hkb : ((k0 : Int) == 0) = true := by rw [hk]; rfl
          clear hk
          go_simp
          go_wp2
          go_meet
          exact ⟨1, by go_num, by omega, by omega, Lib.hid (by rw [Nat.one_mul]; exact HLT.out), rfl⟩
        · have hkb : ((k0 : Int) == 0) = false := by rw [beq_eq_false_iff_ne]; omega
          have hk1 : 1 ≤ k0 := by omega
          clear hk
          go_simp
          go_wp2
          go_meet
          exact ⟨k0, rfl, hk1, HG.out.2, Lib.hid HG.out.1, rfl⟩
      case rest =>
        obtain ⟨K, rfl, hK1, hK9, HKb, rfl⟩ := hcut
        have hlrE := Lib.hid (show (dig R').length = lr from HLR.out)
        go_wp2
        go_loopw [9, 10] (fun cv iv wr => ∃ (i : Nat) (c : Int) (d : List Int), cv = .int .i64 c ∧ iv = .int .i64 i ∧ i ≤ lr ∧ Hid (TakeI (dig R') (dig b) K i c d) ∧ Own wr g d ∧ Hid (Below B w wr)) (fun _ iv _ => lr - (intOf iv).toNat)
        case atStart => exact ⟨0, 0, _, rfl, rfl, by omega, Lib.hid (TakeI.start _ _ _), HOU.out, HBU⟩
        case round =>
          clear HOU HBU
          obtain ⟨i, c, d, rfl, rfl, hi, hT, hown, HBW⟩ := hrel
          have HSB := Lib.hid (Nat.le_trans hB HBW.out.size)
          by_cases hil : i < lr
          · obtain ⟨xi, hxi⟩ : ∃ r, r = (dig R').getD i 0 := ⟨_, rfl⟩
            obtain ⟨yi, hyi⟩ : ∃ r, r = (dig b).getD i 0 := ⟨_, rfl⟩
            have hx9 : xi < 1000000000 := by rw [hxi]; exact (dig_small R').getD _
            have hy9 : yi < 1000000000 := by rw [hyi]; exact (dig_small b).getD _
            have hc0 := hT.out.c0
            have hck := hT.out.ck
            have hat : at0 d i = (xi : Int) := by rw [hT.out.high i (Nat.le_refl _), at0_ni, hxi]
            have hdl := Lib.hid hT.out.len
            have hq := own_at hown i (by have := hdl.out; have := hlrE.out; omega)
            rw [hat] at hq
            have hf := hown.frozen i
            have HOW := Lib.hid hown
            obtain ⟨p, hp⟩ : ∃ p : Int, (yi : Int) * (K : Int) = p := ⟨_, rfl⟩
            have hp0 : 0 ≤ p := by rw [← hp]; exact Int.mul_nonneg (by omega) (by omega)
            have hp1 : p ≤ 999999999 * 999999999 := by rw [← hp]; exact Int.mul_le_mul (by omega) (by omega) (by omega) (by omega)
            obtain ⟨sv, hsv⟩ : ∃ s : Int, (xi : Int) - p = s := ⟨_, rfl⟩
            obtain ⟨t, ht⟩ : ∃ t : Int, sv + c = t := ⟨_, rfl⟩
            have HST := Lib.hid (fun hx hy hi' => hT.out.step (i := i) hx hy hi' t (by rw [hat, ← hyi, hp, hsv, ht]))
            obtain ⟨qv, hqv⟩ : ∃ q : Int, Int.tdiv t 1000000000 = q := ⟨_, rfl⟩
            obtain ⟨mv, hmv⟩ : ∃ m : Int, Int.tmod t 1000000000 = m := ⟨_, rfl⟩
            have hfl := tdiv_floor t
            rw [hqv, hmv] at hfl
            have htb : -1000000000000000000 ≤ t ∧ t < 1000000000 := by
              have := hT.out.range (dig_small R') (dig_small b)
              rw [hat, ← hyi, hp, hsv, ht] at this
              omega
            have hm0 : -1000000000 ≤ mv ∧ mv < 1000000000 := by
              by_cases hm : mv < 0
              · have := (hfl.1 hm).1; omega
              · have := (hfl.2 (by omega)).1; omega
            have hq0 : -1000000001 ≤ qv ∧ qv ≤ 1000000001 := by
              by_cases hm : mv < 0
              · have := (hfl.1 hm).2; omega
              · have := (hfl.2 (by omega)).2; omega
            obtain ⟨hm1, hm2⟩ := hm0
            obtain ⟨hq1, hq2⟩ := hq0
            obtain ⟨htb1, htb2⟩ := htb
            have HYI := Lib.hid hyi
            have HFL := Lib.hid hfl
            have HS2 := Lib.hid (HST.out (dig_small R') (dig_small b) (by rw [hlrE.out]; exact hil))
            have HXI := Lib.hid hxi
            have hii : (0 : Int) ≤ (i : Int) := by omega
            have hil2 : (i : Int) < (lr : Int) := by omega
            have hsvb : -1000000000000000000 ≤ sv := by omega
            have hsvc : sv ≤ 1000000000 := by omega
            have hwp : IntKind.i64.wrap ((yi : Int) * (K : Int)) = p := by rw [hp]; exact IntWalk.i64_in _ (by omega)
            have hws : IntKind.i64.wrap ((xi : Int) - p) = sv := by rw [hsv]; exact IntWalk.i64_in _ (by omega)
            have hwt : IntKind.i64.wrap (sv + c) = t := by rw [ht]; exact IntWalk.i64_in _ (by omega)
            have KS : ∀ w' : World, Below wr.heap.size wr w' → (Below wr.heap.size wr w' ∧ w'.cell? ⟨g, i, none⟩ = some (.int .i64 xi)) := fun w' h => ⟨h, (h.cell (p := ⟨g, i, none⟩) (cell_lt hq)).trans hq⟩
            have KB : ∀ w' : World, (Below wr.heap.size wr w' ∧ w'.cell? ⟨g, i, none⟩ = some (.int .i64 xi)) → Below wr.heap.size wr w' := fun w' h => h.1
            clear hown hT HST hyi hxi hfl hat hp hsv ht
            go_wp2_with fail
            go_region_held3 (fun w' => Below wr.heap.size wr w' ∧ w'.cell? ⟨g, i, none⟩ = some (.int .i64 xi)) (first
              | (refine KS _ ?_; repeat (first | with_reducible exact KU.out | with_reducible exact Below.refl _ _ | with_reducible refine below_drew1 ?_))
              | go_keep) (first
              | (go_at_call 75; ((with_reducible refine (at_int _ _ (dig b) _ i rfl (by exact RN.stepN (RN.more (HB.out.below HBW.out) HSB.out) (KB _ (by assumption)))).mono ?_); rintro e u ⟨hbu, rfl⟩; rw [← HYI.out]; have KU := Lib.hid (Below.trans (KB _ (by assumption)) (hbu.mono (KB _ (by assumption)).size)); clear hbu)))
            rename_i hheld
            have HOU := Lib.hid (HOW.out.step KU.out)
            have HBU := Lib.hid (HBW.out.trans (KU.out.mono HSB.out))
            clear hheld KS KB hwp hws hwt hq hf HOW HBW HSB KU hp0 hp1 hsvb hsvc htb1 htb2 hx9 hy9 hck hc0
            have hf := HOU.out.frozen i
            have hcl := own_at HOU.out i (by have := hdl.out; have := hlrE.out; omega)
            by_cases hm : mv < 0
            · have h1 := (HFL.out.1 hm).1
              have h2 := (HFL.out.1 hm).2
              have HH1 := Lib.hid h1
              have HH2 := Lib.hid h2
              clear h1 h2
              simp only [Exit.then]
              go_wp2
              go_roundw
              case rel =>
                rw [← HH1.out, ← HH2.out] at HS2
                exact ⟨i + 1, _, _, rfl, by go_num, by omega, HS2, HOU.out.set i _ (by have := hdl.out; have := hlrE.out; omega), Lib.hid (HBU.out.setCell (p := ⟨g, i, none⟩) hgB _)⟩
              case measure => simp [intOf]; omega
            · have h1 := (HFL.out.2 (by omega)).1
              have h2 := (HFL.out.2 (by omega)).2
              have HH1 := Lib.hid h1
              have HH2 := Lib.hid h2
              replace hm : 0 ≤ mv := by omega
              simp only [Exit.then]
              go_upto_if 63 with (fail)
              rw [show decide (t % 1000000000 < 0) = false from decide_eq_false (by omega)]
              clear hm1 hm2 hmv hqv
              go_wp2
              go_roundw
              case rel => exact ⟨i + 1, _, _, rfl, by go_num, by omega, HS2, HOU.out.set i _ (by have := hdl.out; have := hlrE.out; omega), Lib.hid (HBU.out.setCell (p := ⟨g, i, none⟩) hgB _)⟩
              case measure => simp [intOf]; omega
          · obtain rfl : i = lr := by omega
            have hT2 := hT.out
            rw [← hlrE.out] at hT2
            obtain ⟨r, rfl, hrl, hrs, hrv⟩ := hT2.fin (by have := HTOP.out; have := hlrE.out; omega) (dig_small R') (by rw [val_dig, val_dig]; exact HKb.out)
            rw [val_dig, val_dig] at hrv
            rw [hlrE.out] at hrl
            have HRN := Lib.hid (own_rn hown i cap hrl.symm hcap hcap2)
            have HRS := Lib.hid hrs
            have HRV := Lib.hid hrv
            have HRL := Lib.hid (show r.length ≤ 1000000 by omega)
            clear hown hT hT2 hrl hrs hrv
            go_wp2_with fail
            refine (made_own _ _ _ r HRN.out HRS.out HRL.out).mono ?_
            rintro e w2 ⟨hb2, q, s, rfl, rfl, hs⟩
            have HBW2 := Lib.hid (HBW.out.trans (hb2.mono HSB.out))
            obtain ⟨R2, hR2⟩ : ∃ R2, R2 = R' - K * b := ⟨_, rfl⟩
            have hsg : (sgn false (val r)).natAbs = R2 := by rw [sgn_nat, HRV.out, hR2]
            rw [hsg] at hs
            have HS := Lib.hid (hs.mono HSB.out)
            have HR2 := Lib.hid hR2
            have hKb2 := HKb.out
            have hbb : b ≤ K * b := Nat.le_mul_of_pos_left _ (by omega)
            have HLE := Lib.hid (show R2 ≤ R' by omega)
            have HLT2 := Lib.hid (show R2 < R' by omega)
            have HEQ := Lib.hid (show R = (n + K) * b + R2 by have := hRR.out; rw [Nat.add_mul]; omega)
            have hnK : n + K < 1000000000 := by
              apply Nat.lt_of_not_le; intro h
              have h1 := Nat.mul_le_mul_right b h
              have h2 := HEQ.out; have h3 := HR0.out
              omega
            have HLL := Lib.hid (show (dig R2).length ≤ 100000 from Nat.le_trans (dig_len_mono HLE.out) (by rw [HLR.out]; omega))
            clear hsg hs hb2 hR2 hKb2 hbb
            go_wp2
            go_roundg R2
            case measure => rw [hgk.out]; exact HLT2.out
            case rel => exact ⟨R2, n + K, _, rfl, Lib.hid rfl, by go_num, hnK, HEQ, HLL.out, HS, HBW2⟩
end Go.Proofs.YtnbanlmkoljghaaGreatDoor

/- The reference's Parts at any two numbers, the second not 0. -/
namespace Go.Proofs.YtnbanlmkoljghaaGreatDoor
open Go Go.RowKit Dig

/-- Two Longs are returned. -/
def RetP (w' : World) (q r : Int) (e : Ending) : Prop := ∃ v u, e = .returned (.tuple #[v, u]) ∧ LV w' w'.heap.size v q ∧ LV w' w'.heap.size u r
theorem sgn_tdiv {a b : Int} {q : Nat} (h : q = a.natAbs / b.natAbs) : sgn (!(decide (a < 0) == decide (b < 0))) q = Int.tdiv a b := by
  subst h; exact tdiv_sign a b
theorem sgn_tmod {a b : Int} {r : Nat} (h : r = a.natAbs % b.natAbs) : sgn (decide (a < 0)) r = Int.tmod a b := by
  subst h; exact tmod_sign a b
theorem results_cell_cell {fn : Func} {p q : Tmp} {ty : TypeId} (h : fn.results = #[.cell p ty, .cell q ty]) (tmps : Array Value) (P : Program) (w : World) :
    (results fn tmps).run P w =
      ((asAddr (tmps.getD p undef)).run P w).andThen fun a w₁ => ((loadVar ty a).run P w₁).andThen fun v w₂ => ((asAddr (tmps.getD q undef)).run P w₂).andThen fun a' w₃ => ((loadVar ty a').run P w₃).andThen fun v' w₄ => .ok (.tuple #[v, v']) w₄ := by
  simp only [results, h]
  simp [Sem.run_bind, Result.andThen]
theorem LB.ret2 {fn : Func} {p q : Tmp} (hf : fn.results = #[.cell p 24, .cell q 24]) {w : World} {b d : Nat} {x y x' y' : Value} (tmps : Array Value) (h : LB w b x y) (h' : LB w d x' y') (hp : tmps.getD p undef = .pointer (some ⟨b, 0, none⟩)) (hq : tmps.getD q undef = .pointer (some ⟨d, 0, none⟩)) :
    (results fn tmps).run Tryz.prog w = .ok (.tuple #[.agg #[x, y], .agg #[x', y']]) w := by
  rw [results_cell_cell hf, hp, hq]
  simp [asAddr, run_loadVar_row w b _ 24 #[x, y] (0, 0) _ h Tryz.underlying24 rfl (by kernel_rfl), run_loadVar_row w d _ 24 #[x', y'] (0, 0) _ h' Tryz.underlying24 rfl (by kernel_rfl)]
theorem lv_set {w : World} {b k : Nat} {u v : Value} {q : Bool} {A : Option Addr} {n c : Nat} {z : Int} (hv : LB w b (.bool q) (.slice A n c)) (h : LV w w.heap.size v z) : LV (w.setCell ⟨b, k, none⟩ u) (w.setCell ⟨b, k, none⟩ u).heap.size v z := by
  obtain ⟨s, hs, hr⟩ := h
  refine ⟨s, hs, ?_⟩
  have h1 := hr.setLB hv k u
  simpa [World.setCell] using h1
/-- The end of a function that returns two Longs, both stored. -/
theorem end_pair {fn : Func} {p q : Tmp} (hf : fn.results = #[.cell p 24, .cell q 24]) {W w : World} {B b d : Nat} {n m n0 m0 : Bool} {A A' A0 A1 : Option Addr} {l c l' c' l0 c0 l1 c1 : Nat} {zq zr : Int} {tmps : Array Value}
    (h : LB w b (.bool n0) (.slice A0 l0 c0)) (h' : LB w d (.bool m0) (.slice A1 l1 c1)) (hne : b ≠ d) (hb : Below B W w) (hB : B ≤ b) (hD : B ≤ d) (hq : LV w w.heap.size (.agg #[.bool n, .slice A l c]) zq) (hr : LV w w.heap.size (.agg #[.bool m, .slice A' l' c']) zr)
    (hp : tmps.getD p undef = .pointer (some ⟨b, 0, none⟩)) (hd : tmps.getD q undef = .pointer (some ⟨d, 0, none⟩)) :
    bodyPost Tryz.prog fn (fun e w' => Below B W w' ∧ RetP w' zq zr e) .ret ⟨tmps, []⟩ ((((w.setCell ⟨b, 0, none⟩ (.bool n)).setCell ⟨b, 1, none⟩ (.slice A l c)).setCell ⟨d, 0, none⟩ (.bool m)).setCell ⟨d, 1, none⟩ (.slice A' l' c')) := by
  have l1 := h.set0 (.bool n)
  have l2 := l1.set1 (.slice A l c)
  have m1 := h'.far (p := ⟨b, 0, none⟩) (fun e => hne e.symm) (.bool n)
  have m2 := m1.far (p := ⟨b, 1, none⟩) (fun e => hne e.symm) (.slice A l c)
  have m3 := m2.set0 (.bool m)
  have m4 := m3.set1 (.slice A' l' c')
  have l4 := (l2.far (p := ⟨d, 0, none⟩) hne (.bool m)).far (p := ⟨d, 1, none⟩) hne (.slice A' l' c')
  exact bodyPost_ret (LB.ret2 hf tmps l4 m4 hp hd) rfl ⟨(((hb.setCell hB _).setCell hB _).setCell hD _).setCell hD _, _, _, rfl, lv_set m3 (lv_set m2 (lv_set l1 (lv_set h hq))), lv_set m3 (lv_set m2 (lv_set l1 (lv_set h hr)))⟩
/-- One more digit of the quotient. -/
structure PartI (X : List Nat) (b k R : Nat) (Q : List Nat) : Prop where
  le : k ≤ X.length
  len : k + Q.length = X.length
  small : Small Q
  sum : val (X.drop k) = val Q * b + R
  rest : R < b
theorem PartI.start {X : List Nat} {b : Nat} (hb : b ≠ 0) : PartI X b X.length 0 [] := ⟨Nat.le_refl _, by simp, Small.nil, by simp [val], by omega⟩
theorem PartI.step {X Q : List Nat} {b k R : Nat} (h : PartI X b (k + 1) R Q) (hX : Small X) : PartI X b k ((X.getD k 0 + 1000000000 * R) % b) ((X.getD k 0 + 1000000000 * R) / b :: Q) := by
  have hk : k < X.length := h.le
  have h1 := part_step hk (by have := h.rest; omega) hX h.sum h.rest h.small
  rw [show R * 1000000000 + X[k] = X.getD k 0 + 1000000000 * R by rw [getD_get hk]; omega] at h1
  exact ⟨by omega, by have := h.len; simp; omega, h1.2, h1.1, Nat.mod_lt _ (by have := h.rest; omega)⟩
theorem PartI.fin {X Q : List Nat} {b R : Nat} (h : PartI X b 0 R Q) : val Q = val X / b ∧ R = val X % b := by
  have h1 := h.sum
  have h2 := h.rest
  rw [List.drop_zero] at h1
  constructor
  · rw [h1, Nat.mul_comm, Nat.mul_add_div (by omega), Nat.div_eq_of_lt h2, Nat.add_zero]
  · rw [h1, Nat.mul_comm, Nat.mul_add_mod, Nat.mod_eq_of_lt h2]
theorem Own.setN {w : World} {g k d : Nat} {Q : List Nat} (h : Own w g (List.replicate (k + 1) 0 ++ ni Q)) : Own (w.setCell ⟨g, k, none⟩ (.int .i64 (d : Int))) g (List.replicate k 0 ++ ni (d :: Q)) := by
  have h1 := h.set k (d : Int) (by simp <;> omega)
  rwa [set_top] at h1

set_option maxRecDepth 100000 in
set_option maxHeartbeats 4000000 in
theorem RParts_any (w : World) (va vb : Value) (x y : Int) (ha : LV w w.heap.size va x) (hb : LV w w.heap.size vb y) (hy0 : y ≠ 0) (hlx : (dig x.natAbs).length ≤ 100000) (hly : (dig y.natAbs).length ≤ 90000) :
    Calls Tryz.prog 70 #[va, vb] w fun e w' => Below w.heap.size w w' ∧ RetP w' (Int.tdiv x y) (Int.tmod x y) e := by
  obtain ⟨i0, hi0, hz0, hz1, hz2⟩ := info_parts info_int
  obtain ⟨A1, c1, rfl, hsa⟩ := ha.parts
  obtain ⟨A2, c2, rfl, hsb⟩ := hb.parts
  have HZ1 := Lib.hid (fun q (h : q = x.natAbs / y.natAbs) => sgn_tdiv h)
  have HZ2 := Lib.hid (fun q (h : q = x.natAbs % y.natAbs) => sgn_tmod h)
  have HSX := Lib.hid (dig_small x.natAbs)
  have HVX := Lib.hid (val_dig x.natAbs)
  clear ha hb
  generalize dig x.natAbs = X at *
  obtain ⟨b, hbb⟩ : ∃ b, b = y.natAbs := ⟨_, rfl⟩
  rw [← hbb] at hsb hly HZ1 HZ2
  rw [← hbb]
  have hb0 : b ≠ 0 := by omega
  obtain ⟨lb, hlb⟩ : ∃ l, l = (dig b).length := ⟨_, rfl⟩
  rw [← hlb] at hsb hly
  rw [← hlb]
  have HLB := Lib.hid hlb
  generalize decide (x < 0) = na at *
  generalize decide (y < 0) = nb at *
  generalize Int.tdiv x y = zq at *
  generalize Int.tmod x y = zr at *
  generalize x.natAbs = xn at *
  have hmk := mk_ints X.length (by omega)
  obtain ⟨w0, hw0⟩ : ∃ w0 : World, w0 = (((w.alloc (.cells #[.bool na, .slice A1 X.length c1] 24)).alloc (.cells #[.bool nb, .slice A2 lb c2] 24)).alloc (.cells #[.bool false, .slice none 0 0] 24)).alloc (.cells #[.bool false, .slice none 0 0] 24) := ⟨_, rfl⟩
  have hb0' : Below w.heap.size w w0 := by rw [hw0]; (repeat' (first | exact Below.refl _ _ | refine Below.drew ?_ | refine Below.alloc ?_ (by first | exact Nat.le_refl _ | (simp; done) | (simp; omega)) _))
  have L0 : LB w0 w.heap.size (.bool na) (.slice A1 X.length c1) := by rw [hw0]; (repeat (first | (refine LB.new' ?_; simp; done) | refine LB.alloc ?_ _))
  have L1 : LB w0 (w.heap.size + 1) (.bool nb) (.slice A2 lb c2) := by rw [hw0]; (repeat (first | (refine LB.new' ?_; simp; done) | refine LB.alloc ?_ _))
  have L2 : LB w0 (w.heap.size + 2) (.bool false) (.slice none 0 0) := by rw [hw0]; (repeat (first | (refine LB.new' ?_; simp; done) | refine LB.alloc ?_ _))
  have L3 : LB w0 (w.heap.size + 3) (.bool false) (.slice none 0 0) := by rw [hw0]; (repeat (first | (refine LB.new' ?_; simp; done) | refine LB.alloc ?_ _))
  have hsz0 : w0.heap.size = w.heap.size + 4 := by rw [hw0]; simp
  have HA := Lib.hid (show RN w w.heap.size _ X from hsa)
  have HB := Lib.hid (show RN w w.heap.size _ (dig b) from hsb)
  replace hw0 := Lib.hid hw0
  clear hsa hsb hbb hlb
  go_enter Tryz.func70, Tryz.ntmps70
  go_wp2
  rw [← hw0.out]
  have hb1 := hb0'.alloc hb0'.size (zerosObj X.length)
  have M0 := L0.alloc (zerosObj X.length)
  have M1 := L1.alloc (zerosObj X.length)
  have M2 := L2.alloc (zerosObj X.length)
  have M3 := L3.alloc (zerosObj X.length)
  have ho := own_new w0 X.length
  rw [hsz0] at ho
  have hsz1 : w.heap.size + 5 ≤ (w0.alloc (zerosObj X.length)).heap.size := by simp; omega
  clear L0 L1 L2 L3 hb0' hsz0 hw0 hmk
  generalize (w0.alloc (zerosObj X.length)) = w1 at *
  have HP := Lib.hid (PartI.start (X := X) hb0)
  have HOV := Lib.hid (show OwnV w1 (w.heap.size + 5) (.slice none 0 0) (ni (dig 0)) by rw [dig_zero]; exact OwnV.nil _ _)
  have HSZ1 := Lib.hid hsz1
  clear hsz1
  go_loopw [7, 8] (fun rv iv wr => ∃ (k R : Nat) (Q : List Nat) (v : Value), rv = v ∧ iv = .int .i64 ((k : Int) - 1) ∧ Hid (PartI X b k R Q) ∧ Hid (OwnV wr (w.heap.size + 5) v (ni (dig R))) ∧ Own wr (w.heap.size + 4) (List.replicate k 0 ++ ni Q) ∧ LB wr w.heap.size (.bool na) (.slice A1 X.length c1) ∧ LB wr (w.heap.size + 1) (.bool nb) (.slice A2 lb c2) ∧ LB wr (w.heap.size + 2) (.bool false) (.slice none 0 0) ∧ LB wr (w.heap.size + 3) (.bool false) (.slice none 0 0) ∧ Hid (Below w.heap.size w wr) ∧ Hid (w.heap.size + 5 ≤ wr.heap.size)) (fun _ iv _ => (intOf iv + 1).toNat)
  case atStart => exact ⟨X.length, 0, [], _, rfl, rfl, HP, HOV, by simpa [ni] using ho, M0, M1, M2, M3, Lib.hid hb1, HSZ1⟩
  case round =>
    clear hb1 ho HP HOV HSZ1 M0 M1 M2 M3
    obtain ⟨k, R, Q, v, rfl, rfl, HP, HOV, ho, M0, M1, M2, M3, HBW, HSZ⟩ := hrel
    have q00 := M0.cell0; have q01 := M0.cell1; have q10 := M1.cell0; have q11 := M1.cell1; have q20 := M2.cell0; have q21 := M2.cell1; have q30 := M3.cell0; have q31 := M3.cell1
    rcases Nat.eq_zero_or_pos k with hk0 | hk0
    · subst hk0
      rw [show (((0 : Nat) : Int) - 1) = -1 from rfl]
      have hf := HP.out.fin
      rw [HVX.out] at hf
      have HQ1 := Lib.hid (HZ1.out _ hf.1)
      have hr2 := HZ2.out _ hf.2
      have HQ2 := Lib.hid hr2
      have HQS := Lib.hid HP.out.small
      have hql := HP.out.len
      have HQL := Lib.hid (show Q.length ≤ 1000000 by omega)
      have hrl : (dig R).length ≤ 90000 := Nat.le_trans (dig_len_mono (Nat.le_of_lt HP.out.rest)) (by rw [← HLB.out]; exact hly)
      have HRL := Lib.hid (show (dig R).length ≤ 1000000 by omega)
      have HRS := Lib.hid (dig_small R)
      have HQN := Lib.hid (own_rn (r := Q) (by simpa using ho) X.length X.length (by omega) (Nat.le_refl _) (by omega))
      have HRN := Lib.hid (show RN wr wr.heap.size _ (dig R) from HOV.out.ri)
      clear hf hr2 HP hql hrl ho
      have tok1 : True := trivial
      have tok2 : True := trivial
      go_wp2_with fail
      go_region_held3 (fun w' => w'.cell? ⟨w.heap.size, 0, none⟩ = some (.bool na) ∧ w'.cell? ⟨w.heap.size + 1, 0, none⟩ = some (.bool nb)) (first
        | (refine ⟨LB.cell0 (y := .slice A1 X.length c1) ?_, LB.cell0 (y := .slice A2 lb c2) ?_⟩ <;> repeat (first | with_reducible exact M0 | with_reducible exact M1 | with_reducible exact N0 | with_reducible exact N1 | with_reducible exact P0 | with_reducible exact P1 | with_reducible refine LB.drew ?_ | with_reducible refine lb_far ?_ (by omega)))
        | go_keep) (first
        | (go_at_call 73; clear tok1; ((with_reducible refine (made_any _ _ _ Q (by repeat (first | with_reducible exact HQN.out | with_reducible refine RN.drew1 ?_)) HQS.out HQL.out).mono ?_); rintro e u1 ⟨hb1, v1, rfl, hv1⟩; rw [HQ1.out] at hv1; obtain ⟨n5, A5, l5, c5, rfl, hv5⟩ := hv1.opened; have KU1 := Lib.hid (show Below wr.heap.size wr u1 by first | exact hb1 | exact below_undrew hb1); have HV5 := Lib.hid hv5; have N0 := LB.step M0 KU1.out; have N1 := LB.step M1 KU1.out; have HRN1 := Lib.hid (RN.stepN HRN.out KU1.out); clear hb1 hv1 hv5))
        | (go_at_call 73; clear tok2; ((with_reducible refine (made_any _ _ _ (dig R) (by repeat (first | with_reducible exact HRN1.out | with_reducible refine RN.drew1 ?_)) HRS.out HRL.out).mono ?_); rintro e u2 ⟨hb2, v2, rfl, hv2⟩; rw [val_dig, HQ2.out] at hv2; obtain ⟨n6, A6, l6, c6, rfl, hv6⟩ := hv2.opened; have KU2 := Lib.hid (show Below u1.heap.size u1 u2 by first | exact hb2 | exact below_undrew hb2); have HV6 := Lib.hid hv6; have P0 := LB.step N0 KU2.out; have P1 := LB.step N1 KU2.out; have P2 := (LB.step M2 KU1.out).step KU2.out; have P3 := (LB.step M3 KU1.out).step KU2.out; have y20 := P2.cell0; have y21 := P2.cell1; have y22 := P2.frozen 0; have y23 := P2.frozen 1; have y30 := P3.cell0; have y31 := P3.cell1; have y32 := P3.frozen 0; have y33 := P3.frozen 1; clear hb2 hv2 hv6)))
      rename_i hheld
      have HBF := Lib.hid (HBW.out.trans ((KU1.out.trans (KU2.out.mono KU1.out.size)).mono HBW.out.size))
      have HV5b := Lib.hid (HV5.out.step KU2.out)
      clear hheld KU1 KU2
      simp only [Exit.then]
      go_wp2
      (try simp only [Exit.inBlock, Exit.then])
      exact end_pair rfl P2 P3 (by omega) HBF.out (by omega) (by omega) HV5b.out HV6.out rfl rfl
    · obtain ⟨j, rfl⟩ : ∃ j, k = j + 1 := ⟨k - 1, by omega⟩
      rw [show (((j + 1 : Nat) : Int) - 1) = (j : Int) by omega]
      have hjX : j < X.length := HP.out.le
      obtain ⟨g1, o1, rfl, hx⟩ := (HA.out.below HBW.out).digit hjX
      obtain ⟨xd, hxd⟩ : ∃ d, d = X.getD j 0 := ⟨_, rfl⟩
      rw [← hxd] at hx
      have hx9 : xd < 1000000000 := by rw [hxd]; exact HSX.out.getD j
      obtain ⟨R1, hR1⟩ : ∃ R1, R1 = xd + 1000000000 * R := ⟨_, rfl⟩
      have HP2 := Lib.hid (HP.out.step HSX.out)
      rw [← hxd, ← hR1] at HP2
      have HRb := Lib.hid (show R1 < 1000000000 * b by have := HP.out.rest; omega)
      have HSm := Lib.hid (dig_next (R := R) hx9).1
      have HSG := Lib.hid (show (sgn false (val (xd :: dig R))).natAbs = R1 by rw [sgn_nat, (dig_next (R := R) hx9).2, hR1])
      have HlR := Lib.hid (show (dig R).length ≤ 90000 from Nat.le_trans (dig_len_mono (Nat.le_of_lt HP.out.rest)) (by rw [← HLB.out]; exact hly))
      have HlR1 := Lib.hid (show (dig R1).length ≤ 100000 by
        have h1 : R1 < bp (lb + 1) := by
          have h2 := dig_lt b
          rw [← HLB.out] at h2
          have h3 := HRb.out
          rw [bp_succ]; omega
        exact Nat.le_trans (dig_len_le.2 h1) (by omega))
      have HO := Lib.hid ho
      have hji : (j : Int) < (X.length : Int) := by omega
      have hj0 : (0 : Int) ≤ (j : Int) := by omega
      clear hxd hR1 HP ho
      go_upto_region 6 with (fail)
      go_cut [9] (fun nv wx => ∃ v : Value, nv = v ∧ Hid (RN wx wx.heap.size v (xd :: dig R)) ∧ Hid (Below wr.heap.size wr wx))
      case first =>
        have hlit := World.ownsRow_lit (base := wr.heap.size) (e := 3) (size := 1) wr #[.int .i64 (xd : Int)] 1 (Nat.le_refl _) (by decide) rfl
        rcases HOV.out.form with ⟨rfl, he⟩ | ⟨g, cap, rfl, hcap, hcap2, hgB, hown⟩
        · go_wp2_with (at_builtin; refine wpList_append_own_none rfl _ _ 22 rfl wr.heap.size 3 i0 1 Tryz.underlying22 hi0 (.slice (some ⟨wr.heap.size, 0, none⟩) 1 1) 1 [.int .i64 (xd : Int)] rfl hlit rfl ?_)
          go_meet
          have hd : dig R = [] := by cases hh : dig R with
            | nil => rfl
            | cons a m => rw [hh] at he; simp [ni] at he
          rw [hd]
          exact ⟨_, rfl, Lib.hid (OwnV.ri (base := wr.heap.size) (l := ni [xd]) hlit), Lib.hid ((Below.refl _ _).alloc (Nat.le_refl _) _)⟩
        · have HNEWS := Lib.hid (World.ownsRow.cells (OwnV.alloc HOV.out (.cells #[.int .i64 (xd : Int)] 3)) (g := g) rfl)
          have hlen : (ni (dig R)).length ≤ 90000 := by rw [ni_length]; exact HlR.out
          go_wp2_with (at_builtin; refine wpList_append_own_at _ rfl _ _ 22 rfl wr.heap.size 3 i0 (.int .i64 0) 1 8 Tryz.underlying22 hi0 hz0 hz1 hz2 rfl (by decide) (.slice (some ⟨wr.heap.size, 0, none⟩) 1 1) 1 [.int .i64 (xd : Int)] rfl hlit ⟨g, 0, none⟩ (ni (dig R)).length cap ((ni (dig R)).map (Value.int .i64)) rfl (by simp) HNEWS.out (by intro u hu; simp at hu; obtain ⟨a, _, rfl⟩ := hu; rfl) (by unfold maxLen; omega) (by omega) (by simp) ?_)
          intro v' w' hown' hgrow hne hblk
          have hv' : OwnV w' wr.heap.size v' (ni (xd :: dig R)) := by
            have h := hown'
            rw [OwnV]
            rw [show 1 + (ni (dig R)).length = (ni (xd :: dig R)).length by simp [ni]; omega] at h
            exact h
          have HV' := Lib.hid hv'.ri
          have HBw := Lib.hid (((Below.refl wr.heap.size wr).alloc (Nat.le_refl _) (.cells #[.int .i64 (xd : Int)] 3)).grown hgrow (by simp) (fun k hk => by simp [Value.ownBlock] at hk; omega))
          clear hown' hgrow hne hblk hv'
          go_wp2
          go_meet
          exact ⟨_, rfl, HV', HBw⟩
      case rest =>
        obtain ⟨nx, rfl, HN, HBc⟩ := hcut
        have HLm := Lib.hid (show (xd :: dig R).length ≤ 1000000 by have := HlR.out; simp; omega)
        have HO1 := Lib.hid (HO.out.step HBc.out)
        replace M0 := M0.step HBc.out
        replace M1 := M1.step HBc.out
        replace M2 := M2.step HBc.out
        replace M3 := M3.step HBc.out
        have HBW1 := Lib.hid (HBW.out.trans (HBc.out.mono HBW.out.size))
        have HSZ1 := Lib.hid (Nat.le_trans HSZ.out HBc.out.size)
        have HSZ2 := HSZ1.out
        have HBR := Lib.hid (RN.more (HB.out.below HBW1.out) HBW1.out.size)
        clear HO HBW HSZ HBc HOV hx
        have q10 := M1.cell0; have q11 := M1.cell1
        have hfd := fld_digits
        have hlb2 : lb ≤ 100000 := by omega
        have HLB2 := Lib.hid (show (dig b).length ≤ 100000 by rw [← HLB.out]; exact hlb2)
        have tok1 : True := trivial
        have tok2 : True := trivial
        go_wp2_with fail
        go_region_held3 (fun w' => w'.cell? ⟨w.heap.size + 1, 1, none⟩ = some (.slice A2 lb c2)) (first
          | (refine LB.cell1 (b := w.heap.size + 1) (x := .bool nb) ?_; repeat (first | with_reducible exact M1 | with_reducible exact N1 | with_reducible exact P1 | with_reducible refine LB.drew ?_ | with_reducible refine lb_far ?_ (by omega)))
          | go_keep) (first
          | (go_at_call 73; clear tok1; ((with_reducible refine (made_own _ _ _ (xd :: dig R) (by repeat (first | with_reducible exact HN.out | with_reducible refine RN.drew1 ?_)) HSm.out HLm.out).mono ?_); rintro e u1 ⟨hb1, q1, s1, rfl, rfl, hs1⟩; rw [HSG.out] at hs1; have KU1 := Lib.hid (show Below wc.heap.size wc u1 by first | exact hb1 | exact below_undrew hb1); have HS1 := Lib.hid (show OwnV u1 wc.heap.size s1 (ni (dig R1)) from hs1); have N1 := LB.step M1 KU1.out; have HBR1 := Lib.hid (RN.below HBR.out KU1.out); clear hb1 hs1))
          | (go_at_call 104; clear tok2; ((with_reducible refine (RTaken_any _ wc.heap.size _ _ R1 b (by exact KU1.out.size) (by repeat (first | with_reducible exact HS1.out | with_reducible refine OwnV.drew ?_)) (by exact HBR1.out) hb0 HRb.out HlR1.out HLB2.out).mono ?_); rintro e u2 ⟨hb2, v2, rfl, hv2⟩; have KU2 := Lib.hid (show Below wc.heap.size wc u2 by first | exact KU1.out.trans hb2 | exact KU1.out.trans (below_undrew hb2)); have HV2 := Lib.hid hv2; have P1 := LB.step M1 KU2.out; have hqf := (HO1.out.step KU2.out).frozen j; have hqc := (HO1.out.step KU2.out).cell j (by simp <;> omega); clear hb2 hv2)))
        rename_i hheld
        obtain ⟨qd, hqd⟩ : ∃ q : Nat, q = R1 / b := ⟨_, rfl⟩
        rw [show (R1 : Int) / (b : Int) = (qd : Int) by rw [hqd]; simp]
        rw [← hqd] at HP2
        obtain ⟨u3, hu3⟩ : ∃ u3 : World, u3 = u2.setCell ⟨w.heap.size + 4, j, none⟩ (.int .i64 (qd : Int)) := ⟨_, rfl⟩
        have S0 : LB u3 w.heap.size (.bool na) (.slice (some ⟨g1, o1, none⟩) X.length c1) := by rw [hu3]; exact lb_far (M0.step KU2.out) (by omega)
        have S1 : LB u3 (w.heap.size + 1) (.bool nb) (.slice A2 lb c2) := by rw [hu3]; exact lb_far (M1.step KU2.out) (by omega)
        have S2 : LB u3 (w.heap.size + 2) (.bool false) (.slice none 0 0) := by rw [hu3]; exact lb_far (M2.step KU2.out) (by omega)
        have S3 : LB u3 (w.heap.size + 3) (.bool false) (.slice none 0 0) := by rw [hu3]; exact lb_far (M3.step KU2.out) (by omega)
        have SO : Own u3 (w.heap.size + 4) (List.replicate j 0 ++ ni (qd :: Q)) := by rw [hu3]; exact Own.setN (HO1.out.step KU2.out)
        have SV := Lib.hid (show OwnV u3 (w.heap.size + 5) v2 (ni (dig (R1 % b))) by rw [hu3]; exact (HV2.out.setBelow (p := ⟨w.heap.size + 4, j, none⟩) (by have := HSZ1.out; show w.heap.size + 4 < wc.heap.size; omega) _).mono HSZ1.out)
        have SB := Lib.hid (show Below w.heap.size w u3 by rw [hu3]; exact (HBW1.out.trans (KU2.out.mono HBW1.out.size)).setCell (p := ⟨w.heap.size + 4, j, none⟩) (by simp) _)
        have SZ := Lib.hid (show w.heap.size + 5 ≤ u3.heap.size by rw [hu3]; have h1 := HSZ1.out; have h2 := KU2.out.size; simp [World.setCell]; omega)
        clear hheld hqd KU1 HS1 N1 HBR1 KU2 HV2 P1 hqf hqc M0 M1 M2 M3 HO1 HBW1 HSZ1 HN HBR q10 q11
        rw [← hu3]
        clear hu3
        simp only [Exit.then, Exit.inBlock]
        go_wp2
        go_roundw
        case rel => exact ⟨j, R1 % b, qd :: Q, _, rfl, rfl, HP2, SV, SO, S0, S1, S2, S3, SB, SZ⟩
        case measure => simp [intOf]
end Go.Proofs.YtnbanlmkoljghaaGreatDoor

/- The reference's Common at any two numbers. -/
namespace Go.Proofs.YtnbanlmkoljghaaGreatDoor
open Go Go.RowKit Dig

theorem gcd_tmod (x y : Int) : Nat.gcd y.natAbs (Int.tmod x y).natAbs = Nat.gcd x.natAbs y.natAbs := by
  rw [Int.natAbs_tmod, gcd_step]
theorem tmod_len {x y : Int} (h : y ≠ 0) {k : Nat} (hk : (dig y.natAbs).length ≤ k) : (dig (Int.tmod x y).natAbs).length ≤ k :=
  Nat.le_trans (dig_len_mono (by rw [Int.natAbs_tmod]; exact Nat.le_of_lt (Nat.mod_lt _ (by omega)))) hk
theorem len_zero {z : Int} (h : z = 0) : (dig z.natAbs).length = 0 := by rw [h]; show (dig 0).length = 0; rw [dig_zero]; rfl
theorem len_pos {z : Int} (h : z ≠ 0) : 0 < (dig z.natAbs).length := dig_len_pos (by omega)

set_option maxRecDepth 100000 in
set_option maxHeartbeats 4000000 in
theorem RCommon_any (w : World) (va vb : Value) (x y : Int) (ha : LV w w.heap.size va x) (hb : LV w w.heap.size vb y) (hlx : (dig x.natAbs).length ≤ 90000) (hly : (dig y.natAbs).length ≤ 90000) :
    Calls Tryz.prog 72 #[va, vb] w fun e w' => Below w.heap.size w w' ∧ RetV w' (Int.gcd x y : Int) e := by
  obtain ⟨na, A1, l1, c1, rfl, HA⟩ := ha.opened
  obtain ⟨nb, A2, l2, c2, rfl, HB⟩ := hb.opened
  clear ha hb
  obtain ⟨g, hg⟩ : ∃ g : Nat, g = Int.gcd x y := ⟨_, rfl⟩
  have HG0 := Lib.hid (show Nat.gcd x.natAbs y.natAbs = g from hg.symm)
  rw [← hg]
  clear hg
  obtain ⟨w0, hw0⟩ : ∃ w0 : World, w0 = ((w.alloc (.cells #[.bool na, .slice A1 l1 c1] 24)).alloc (.cells #[.bool nb, .slice A2 l2 c2] 24)).alloc (.cells #[.bool false, .slice none 0 0] 24) := ⟨_, rfl⟩
  have HB0 := Lib.hid (show Below w.heap.size w w0 by rw [hw0]; (repeat' (first | exact Below.refl _ _ | refine Below.drew ?_ | refine Below.alloc ?_ (by first | exact Nat.le_refl _ | (simp; done) | (simp; omega)) _)))
  have L0 : LB w0 w.heap.size (.bool na) (.slice A1 l1 c1) := by rw [hw0]; (repeat (first | (refine LB.new' ?_; simp; done) | refine LB.alloc ?_ _))
  have L1 : LB w0 (w.heap.size + 1) (.bool nb) (.slice A2 l2 c2) := by rw [hw0]; (repeat (first | (refine LB.new' ?_; simp; done) | refine LB.alloc ?_ _))
  have L2 : LB w0 (w.heap.size + 2) (.bool false) (.slice none 0 0) := by rw [hw0]; (repeat (first | (refine LB.new' ?_; simp; done) | refine LB.alloc ?_ _))
  have HSZ := Lib.hid (show w.heap.size + 3 ≤ w0.heap.size by rw [hw0]; simp)
  replace HA := Lib.hid (HA.step HB0.out)
  replace HB := Lib.hid (HB.step HB0.out)
  replace hw0 := Lib.hid hw0
  go_enter Tryz.func72, Tryz.ntmps72
  go_wp2
  rw [← hw0.out]
  clear hw0
  go_loopg [5] y.natAbs (fun gk s5 wr => ∃ (x' y' : Int) (na : Bool) (A1 : Option Addr) (l1 c1 : Nat) (nb : Bool) (A2 : Option Addr) (l2 c2 : Nat), Hid (gk = y'.natAbs) ∧ Hid (Nat.gcd x'.natAbs y'.natAbs = g) ∧ Hid ((dig x'.natAbs).length ≤ 90000) ∧ Hid ((dig y'.natAbs).length ≤ 90000) ∧
    LB wr w.heap.size (.bool na) (.slice A1 l1 c1) ∧ LB wr (w.heap.size + 1) (.bool nb) (.slice A2 l2 c2) ∧ LB wr (w.heap.size + 2) (.bool false) (.slice none 0 0) ∧ Hid (LV wr wr.heap.size (.agg #[.bool na, .slice A1 l1 c1]) x') ∧ Hid (LV wr wr.heap.size (.agg #[.bool nb, .slice A2 l2 c2]) y') ∧ Hid (Below w.heap.size w wr) ∧ Hid (w.heap.size + 3 ≤ wr.heap.size))
  case atStart => exact ⟨x, y, na, A1, l1, c1, nb, A2, l2, c2, Lib.hid rfl, HG0, Lib.hid hlx, Lib.hid hly, L0, L1, L2, HA, HB, HB0, HSZ⟩
  case round =>
    clear HG0 L0 L1 L2 HA HB HB0 HSZ hlx hly
    obtain ⟨x', y', na, A1, l1, c1, nb, A2, l2, c2, hgk, HG, hlx, hly, M0, M1, M2, HA, HB, HBW, HSZ⟩ := hrel
    have q00 := M0.cell0; have q01 := M0.cell1; have q10 := M1.cell0; have q11 := M1.cell1; have q20 := M2.cell0; have q21 := M2.cell1; have q22 := M2.frozen 0; have q23 := M2.frozen 1
    have hl2 := HB.out.is.2.1
    by_cases hy0 : y' = 0
    · obtain rfl : l2 = 0 := hl2.trans (len_zero hy0)
      have HGG := Lib.hid (show sgn false (val (dig x'.natAbs)) = (g : Int) by have h := HG.out; rw [hy0] at h; simp at h; rw [val_dig, ← h]; rfl)
      have HRN := Lib.hid HA.out.is.2.2
      have HRS := Lib.hid (dig_small x'.natAbs)
      have HRL := Lib.hid (show (dig x'.natAbs).length ≤ 1000000 by have := hlx.out; omega)
      clear hl2 hy0 HG hgk
      go_wp2_with fail
      refine (made_any _ _ _ (dig x'.natAbs) HRN.out HRS.out HRL.out).mono ?_
      rintro e w2 ⟨hb2, v2, rfl, hv2⟩
      rw [HGG.out] at hv2
      obtain ⟨n3, A3, l3, c3, rfl, hv3⟩ := hv2.opened
      have HV3 := Lib.hid hv3
      have N2 := M2.step hb2
      have HB2 := Lib.hid (HBW.out.trans (hb2.mono HBW.out.size))
      clear hv2 hv3 hb2 M0 M1 M2 HBW q00 q01 q10 q11 q20 q21 q22 q23
      have q20 := N2.cell0; have q21 := N2.cell1; have q22 := N2.frozen 0; have q23 := N2.frozen 1
      go_wp2
      (try simp only [Exit.inBlock, Exit.then])
      exact end_long rfl N2 HB2.out (by omega) HV3.out rfl
    · have hl0 : (0 : Int) < (l2 : Int) := by have := len_pos hy0; omega
      have HY0 := Lib.hid hy0
      clear hl2 hy0
      go_wp2_with fail
      refine (RParts_any _ _ _ x' y' HA.out HB.out HY0.out (by have := hlx.out; omega) hly.out).mono ?_
      rintro e u ⟨hb2, v1, v2, rfl, hv1, hv2⟩
      obtain ⟨n5, A5, l5, c5, rfl, hv5⟩ := hv1.opened
      obtain ⟨n6, A6, l6, c6, rfl, hv6⟩ := hv2.opened
      have HU := Lib.hid hb2
      have HV6 := Lib.hid hv6
      clear hb2 hv1 hv2 hv5 hv6 q00 q01 q10 q11 q20 q21 q22 q23
      have N0 := M0.step HU.out
      have N1 := M1.step HU.out
      have N2 := M2.step HU.out
      have HB1 := Lib.hid (HB.out.step HU.out)
      have HBU := Lib.hid (HBW.out.trans (HU.out.mono HBW.out.size))
      have HSU := Lib.hid (Nat.le_trans HSZ.out HU.out.size)
      obtain ⟨r, hr⟩ : ∃ r, r = Int.tmod x' y' := ⟨_, rfl⟩
      have HR1 := Lib.hid (show Nat.gcd y'.natAbs r.natAbs = g by rw [hr, gcd_tmod]; exact HG.out)
      have HR2 := Lib.hid (show (dig r.natAbs).length ≤ 90000 by rw [hr]; exact tmod_len HY0.out hly.out)
      have HR3 := Lib.hid (show r.natAbs < y'.natAbs by rw [hr, Int.natAbs_tmod]; exact Nat.mod_lt _ (by have := HY0.out; omega))
      rw [← hr] at HV6
      clear hr M0 M1 M2 HA HB HBW HSZ HU
      have q10 := N1.cell0; have q11 := N1.cell1
      have q00 := N0.cell0; have q01 := N0.cell1; have q02 := N0.frozen 0; have q03 := N0.frozen 1; have q12 := N1.frozen 0; have q13 := N1.frozen 1
      have h0lt := N0.lt
      have h1lt := N1.lt
      go_wp2
      go_region_with (fail)
      all_goals
        have S0 := ((((((N0.set0 (.bool nb)).set1 (.slice A2 l2 c2)).far (p := ⟨w.heap.size + 1, 0, none⟩) (by simp) (.bool n6)).far (p := ⟨w.heap.size + 1, 1, none⟩) (by simp) (.slice A6 l6 c6)).alloc (.cells #[.bool n5, .slice A5 l5 c5] 24)).alloc (.cells #[.bool n6, .slice A6 l6 c6] 24)).drew
        have t1 := (N1.far (p := ⟨w.heap.size, 0, none⟩) (by simp) (.bool nb)).far (p := ⟨w.heap.size, 1, none⟩) (by simp) (.slice A2 l2 c2)
        have S1 := ((((t1.set0 (.bool n6)).set1 (.slice A6 l6 c6)).alloc (.cells #[.bool n5, .slice A5 l5 c5] 24)).alloc (.cells #[.bool n6, .slice A6 l6 c6] 24)).drew
        have S2 := ((((((N2.far (p := ⟨w.heap.size, 0, none⟩) (by simp) (.bool nb)).far (p := ⟨w.heap.size, 1, none⟩) (by simp) (.slice A2 l2 c2)).far (p := ⟨w.heap.size + 1, 0, none⟩) (by simp) (.bool n6)).far (p := ⟨w.heap.size + 1, 1, none⟩) (by simp) (.slice A6 l6 c6)).alloc (.cells #[.bool n5, .slice A5 l5 c5] 24)).alloc (.cells #[.bool n6, .slice A6 l6 c6] 24)).drew
        have V1 := Lib.hid (LV.drew1 (LV.alloc (LV.alloc (lv_set (k := 1) (u := .slice A6 l6 c6) (t1.set0 (.bool n6)) (lv_set (k := 0) (u := .bool n6) t1 (lv_set (k := 1) (u := .slice A2 l2 c2) (N0.set0 (.bool nb)) (lv_set (k := 0) (u := .bool nb) N0 HB1.out)))) (.cells #[.bool n5, .slice A5 l5 c5] 24)) (.cells #[.bool n6, .slice A6 l6 c6] 24)))
        have V2 := Lib.hid (LV.drew1 (LV.alloc (LV.alloc (lv_set (k := 1) (u := .slice A6 l6 c6) (t1.set0 (.bool n6)) (lv_set (k := 0) (u := .bool n6) t1 (lv_set (k := 1) (u := .slice A2 l2 c2) (N0.set0 (.bool nb)) (lv_set (k := 0) (u := .bool nb) N0 HV6.out)))) (.cells #[.bool n5, .slice A5 l5 c5] 24)) (.cells #[.bool n6, .slice A6 l6 c6] 24)))
        have SB := Lib.hid (below_drew1 (below_alloc1 (below_alloc1 (below_set1 (below_set1 (below_set1 (below_set1 HBU.out (Nat.le_refl _) 0 (.bool nb)) (Nat.le_refl _) 1 (.slice A2 l2 c2)) (Nat.le_succ _) 0 (.bool n6)) (Nat.le_succ _) 1 (.slice A6 l6 c6)) (.cells #[.bool n5, .slice A5 l5 c5] 24)) (.cells #[.bool n6, .slice A6 l6 c6] 24)))
        have SZ := Lib.hid (show w.heap.size + 3 ≤ (((((((u.setCell ⟨w.heap.size, 0, none⟩ (.bool nb)).setCell ⟨w.heap.size, 1, none⟩ (.slice A2 l2 c2)).setCell ⟨w.heap.size + 1, 0, none⟩ (.bool n6)).setCell ⟨w.heap.size + 1, 1, none⟩ (.slice A6 l6 c6)).alloc (.cells #[.bool n5, .slice A5 l5 c5] 24)).alloc (.cells #[.bool n6, .slice A6 l6 c6] 24)).drew).heap.size from Nat.le_trans HSU.out (by simp [World.setCell] <;> omega))
        clear t1 N0 N1 N2 q00 q01 q02 q03 q10 q11 q12 q13 h0lt h1lt HB1 HV6 HBU HSU
        simp only [Exit.then, Exit.inBlock]
        go_wp2
        go_roundg r.natAbs
        case measure => rw [hgk.out]; exact HR3.out
        case rel => exact ⟨y', r, _, _, _, _, _, _, _, _, Lib.hid rfl, HR1, hly, HR2, S0, S1, S2, V1, V2, SB, SZ⟩
end Go.Proofs.YtnbanlmkoljghaaGreatDoor

/- The reference's Cmp, Mul, Gcd, Div at any two Longs (written by gen_rbin.py). -/
namespace Go.Proofs.YtnbanlmkoljghaaGreatDoor
open Go Go.RowKit Dig

/-- The end of a function that returns two Longs and an error, both stored. -/
theorem end_two {fn : Func} {p q k : Tmp} (hf : fn.results = #[.cell p 24, .cell q 24, .tmp k]) {W w : World} {B b d : Nat} {n m n0 m0 : Bool} {A A' A0 A1 : Option Addr} {l c l' c' l0 c0 l1 c1 : Nat} {zq zr e : Int} {r : Int × Int × Int} {tmps : Array Value}
    (h : LB w b (.bool n0) (.slice A0 l0 c0)) (h' : LB w d (.bool m0) (.slice A1 l1 c1)) (hne : b ≠ d) (hb : Below B W w) (hB : B ≤ b) (hD : B ≤ d) (hq : LV w w.heap.size (.agg #[.bool n, .slice A l c]) zq) (hr : LV w w.heap.size (.agg #[.bool m, .slice A' l' c']) zr) (hz : r = (zq, zr, e))
    (hp : tmps.getD p undef = .pointer (some ⟨b, 0, none⟩)) (hd : tmps.getD q undef = .pointer (some ⟨d, 0, none⟩)) (hk : tmps.getD k undef = .int .i64 e) :
    bodyPost Tryz.prog fn (fun e w' => Below B W w' ∧ RetD w' r e) .ret ⟨tmps, []⟩ ((((w.setCell ⟨b, 0, none⟩ (.bool n)).setCell ⟨b, 1, none⟩ (.slice A l c)).setCell ⟨d, 0, none⟩ (.bool m)).setCell ⟨d, 1, none⟩ (.slice A' l' c')) := by
  have l1 := h.set0 (.bool n)
  have l2 := l1.set1 (.slice A l c)
  have m1 := h'.far (p := ⟨b, 0, none⟩) (fun e => hne e.symm) (.bool n)
  have m2 := m1.far (p := ⟨b, 1, none⟩) (fun e => hne e.symm) (.slice A l c)
  have m3 := m2.set0 (.bool m)
  have m4 := m3.set1 (.slice A' l' c')
  have l4 := (l2.far (p := ⟨d, 0, none⟩) hne (.bool m)).far (p := ⟨d, 1, none⟩) hne (.slice A' l' c')
  subst hz
  exact bodyPost_ret (LB.ret3 hf tmps l4 m4 hp hd) rfl ⟨(((hb.setCell hB _).setCell hB _).setCell hD _).setCell hD _, _, _, by rw [hk], lv_set m3 (lv_set m2 (lv_set l1 (lv_set h hq))), lv_set m3 (lv_set m2 (lv_set l1 (lv_set h hr)))⟩
/-- The same behind a draw. -/
theorem end_two' {fn : Func} {p q k : Tmp} (hf : fn.results = #[.cell p 24, .cell q 24, .tmp k]) {W w : World} {B b d : Nat} {n m n0 m0 : Bool} {A A' A0 A1 : Option Addr} {l c l' c' l0 c0 l1 c1 : Nat} {zq zr e : Int} {r : Int × Int × Int} {tmps : Array Value}
    (h : LB w b (.bool n0) (.slice A0 l0 c0)) (h' : LB w d (.bool m0) (.slice A1 l1 c1)) (hne : b ≠ d) (hb : Below B W w) (hB : B ≤ b) (hD : B ≤ d) (hq : LV w w.heap.size (.agg #[.bool n, .slice A l c]) zq) (hr : LV w w.heap.size (.agg #[.bool m, .slice A' l' c']) zr) (hz : r = (zq, zr, e))
    (hp : tmps.getD p undef = .pointer (some ⟨b, 0, none⟩)) (hd : tmps.getD q undef = .pointer (some ⟨d, 0, none⟩)) (hk : tmps.getD k undef = .int .i64 e) :
    bodyPost Tryz.prog fn (fun e w' => Below B W w' ∧ RetD w' r e) .ret ⟨tmps, []⟩ ((((w.setCell ⟨b, 0, none⟩ (.bool n)).setCell ⟨b, 1, none⟩ (.slice A l c)).setCell ⟨d, 0, none⟩ (.bool m)).setCell ⟨d, 1, none⟩ (.slice A' l' c')).drew := by
  have l1 := h.set0 (.bool n)
  have l2 := l1.set1 (.slice A l c)
  have m1 := h'.far (p := ⟨b, 0, none⟩) (fun e => hne e.symm) (.bool n)
  have m2 := m1.far (p := ⟨b, 1, none⟩) (fun e => hne e.symm) (.slice A l c)
  have m3 := m2.set0 (.bool m)
  have m4 := m3.set1 (.slice A' l' c')
  have l4 := (l2.far (p := ⟨d, 0, none⟩) hne (.bool m)).far (p := ⟨d, 1, none⟩) hne (.slice A' l' c')
  subst hz
  exact bodyPost_ret (LB.ret3 hf tmps l4.drew m4.drew hp hd) rfl ⟨((((hb.setCell hB _).setCell hB _).setCell hD _).setCell hD _).drew, _, _, by rw [hk], LV.drew1 (lv_set m3 (lv_set m2 (lv_set l1 (lv_set h hq)))), LV.drew1 (lv_set m3 (lv_set m2 (lv_set l1 (lv_set h hr))))⟩

set_option maxRecDepth 100000 in
set_option maxHeartbeats 4000000 in
theorem RMul_any (w : World) (va : Value) (vb : Value) (na : Bool) (da : List Int) (nb : Bool) (db : List Int) (ha : LR w w.heap.size va na da) (hb : LR w w.heap.size vb nb db) :
    Calls Tryz.prog 20 #[va, vb] w fun e w' => Below w.heap.size w w' ∧ RetL w' (A2 (fun a b => toldZ (a * b)) (numOf na da) (numOf nb db)) e := by
  obtain ⟨r, hr⟩ : ∃ r, r = A2 (fun a b => toldZ (a * b)) (numOf na da) (numOf nb db) := ⟨_, rfl⟩
  rw [← hr]
  have HR := Lib.hid hr
  clear hr
  obtain ⟨Aa, ka, ca, rfl, Ha⟩ := ha.opened
  clear ha
  obtain ⟨Ab, kb, cb, rfl, Hb⟩ := hb.opened
  clear hb
  obtain ⟨w0, hw0⟩ : ∃ w0 : World, w0 = (((w.alloc (.cells #[.bool na, .slice Aa ka ca] 24)).alloc (.cells #[.bool nb, .slice Ab kb cb] 24)).alloc (.cells #[.bool false, .slice none 0 0] 24)) := ⟨_, rfl⟩
  have B0 := Lib.hid (show Below w.heap.size w w0 by rw [hw0]; (repeat' (first | exact Below.refl _ _ | refine Below.drew ?_ | refine Below.alloc ?_ (by first | exact Nat.le_refl _ | (simp; done) | (simp; omega)) _)))
  have z0 : w.heap.size + 3 ≤ w0.heap.size := by rw [hw0]; simp
  have La : LB w0 (w.heap.size) (.bool na) (.slice Aa ka ca) := by rw [hw0]; (repeat (first | (refine LB.new' ?_; simp; done) | refine LB.alloc ?_ _))
  have Lb : LB w0 (w.heap.size + 1) (.bool nb) (.slice Ab kb cb) := by rw [hw0]; (repeat (first | (refine LB.new' ?_; simp; done) | refine LB.alloc ?_ _))
  have Lr0 : LB w0 (w.heap.size + 2) (.bool false) (.slice none 0 0) := by rw [hw0]; (repeat (first | (refine LB.new' ?_; simp; done) | refine LB.alloc ?_ _))
  replace Ha := Lib.hid (Ha.step B0.out)
  replace Hb := Lib.hid (Hb.step B0.out)
  subst hw0
  by_cases hva : Valid na da
  · have HVa := Lib.hid hva
    by_cases hvb : Valid nb db
    · have HVb := Lib.hid hvb
      obtain ⟨x, hx1, hx2, hx3⟩ := LR.num Ha.out hva
      obtain ⟨y, hy1, hy2, hy3⟩ := LR.num Hb.out hvb
      have HX := Lib.hid hx2; have HY := Lib.hid hy2; have HLX := Lib.hid hx3; have HLY := Lib.hid hy3
      have HRR := Lib.hid (show r = toldZ (x * y) by rw [HR.out, hx1, hy1]; rfl)
      have HLS := Lib.hid (show (dig (x * y).natAbs).length ≤ 1000000 from Nat.le_trans (Len.mul (j := 600) (k := 600) hx3 hy3) (by omega))
      clear hx1 hx2 hx3 hy1 hy2 hy3 hva hvb HR
      obtain ⟨t, ht⟩ : ∃ t, t = x * y := ⟨_, rfl⟩
      rw [← ht] at HRR HLS
      have HT := Lib.hid ht
      clear ht
      go_enter Tryz.func20, Tryz.ntmps20
      go_wp2_with fail
      refine (Right_good Ha.out HVa.out).mono ?_
      rintro e w1 ⟨hb1, rfl⟩
      have B2 := Lib.hid hb1
      have z2 := B2.out.size
      have HB3 := Lib.hid (B0.out.trans (B2.out.mono B0.out.size))
      clear hb1
      have La_5 := LB.step La B2.out
      have q6_0 := La_5.cell0
      have q6_1 := La_5.cell1
      have q6_2 := La_5.frozen 0
      have q6_3 := La_5.frozen 1
      have q6_lt := La_5.lt
      have Lb_7 := LB.step Lb B2.out
      have q8_0 := Lb_7.cell0
      have q8_1 := Lb_7.cell1
      have q8_2 := Lb_7.frozen 0
      have q8_3 := Lb_7.frozen 1
      have q8_lt := Lb_7.lt
      have Lr0_9 := LB.step Lr0 B2.out
      have q10_0 := Lr0_9.cell0
      have q10_1 := Lr0_9.cell1
      have q10_2 := Lr0_9.frozen 0
      have q10_3 := Lr0_9.frozen 1
      have q10_lt := Lr0_9.lt
      go_wp2_with fail
      have Hb_11 := Lib.hid (LR.step Hb.out B2.out)
      refine (Right_good Hb_11.out HVb.out).mono ?_
      rintro e w4 ⟨hb4, rfl⟩
      have B12 := Lib.hid hb4
      have z12 := B12.out.size
      have HB13 := Lib.hid (HB3.out.trans (B12.out.mono HB3.out.size))
      clear hb4
      clear q6_0 q6_1 q6_2 q6_3 q6_lt q8_0 q8_1 q8_2 q8_3 q8_lt q10_0 q10_1 q10_2 q10_3 q10_lt
      have La_15 := LB.step La_5 B12.out
      have q16_0 := La_15.cell0
      have q16_1 := La_15.cell1
      have q16_2 := La_15.frozen 0
      have q16_3 := La_15.frozen 1
      have q16_lt := La_15.lt
      have Lb_17 := LB.step Lb_7 B12.out
      have q18_0 := Lb_17.cell0
      have q18_1 := Lb_17.cell1
      have q18_2 := Lb_17.frozen 0
      have q18_3 := Lb_17.frozen 1
      have q18_lt := Lb_17.lt
      have Lr0_19 := LB.step Lr0_9 B12.out
      have q20_0 := Lr0_19.cell0
      have q20_1 := Lr0_19.cell1
      have q20_2 := Lr0_19.frozen 0
      have q20_3 := Lr0_19.frozen 1
      have q20_lt := Lr0_19.lt
      go_wp2_with fail
      have P1_3_21 := Lib.hid (B2.out.trans (B12.out.mono B2.out.size))
      have Hx_22 := Lib.hid (LV.step HX.out P1_3_21.out)
      have Hy_23 := Lib.hid (LV.step HY.out P1_3_21.out)
      refine (RProd_any _ _ _ x y Hx_22.out Hy_23.out (by have := HLX.out; omega) (by have := HLY.out; omega)).mono ?_
      rintro e w14 ⟨hb14, v3, rfl, hv3⟩
      have B24 := Lib.hid hb14
      have z24 := B24.out.size
      have HB25 := Lib.hid (HB13.out.trans (B24.out.mono HB13.out.size))
      clear hb14
      clear q16_0 q16_1 q16_2 q16_3 q16_lt q18_0 q18_1 q18_2 q18_3 q18_lt q20_0 q20_1 q20_2 q20_3 q20_lt
      rw [← HT.out] at hv3
      have HV3 := Lib.hid hv3
      clear hv3
      go_wp2_with fail
      refine (RTold_any _ _ t HV3.out HLS.out).mono ?_
      rintro e w26 ⟨hb26, hret⟩
      have B27 := Lib.hid hb26
      have z27 := B27.out.size
      have HB28 := Lib.hid (HB25.out.trans (B27.out.mono HB25.out.size))
      clear hb26
      rw [← HRR.out] at hret
      obtain ⟨v4, rfl, hv4⟩ := hret
      obtain ⟨rz, re⟩ := r
      replace hv4 : LV w26 w26.heap.size v4 rz := hv4
      obtain ⟨n4, A4, l4, c4, rfl, hv4⟩ := hv4.opened
      have HV4 := Lib.hid hv4
      clear hv4
      have P3_5_29 := Lib.hid (B24.out.trans (B27.out.mono B24.out.size))
      have Lr0_30 := LB.step Lr0_19 P3_5_29.out
      have q31_0 := Lr0_30.cell0
      have q31_1 := Lr0_30.cell1
      have q31_2 := Lr0_30.frozen 0
      have q31_3 := Lr0_30.frozen 1
      have q31_lt := Lr0_30.lt
      go_wp2
      (try simp only [Exit.inBlock, Exit.then])
      exact end_put rfl Lr0_30 HB28.out (by omega) HV4.out.is.2.2 HV4.out.is.1 rfl rfl rfl
    · have HVb := Lib.hid hvb
      have HZ := Lib.hid (show r = (0, 30) by rw [HR.out]; exact A2_bad (fun h => hvb h.2))
      clear hva hvb HR
      go_enter Tryz.func20, Tryz.ntmps20
      go_wp2_with fail
      refine (Right_good Ha.out HVa.out).mono ?_
      rintro e w32 ⟨hb32, rfl⟩
      have B33 := Lib.hid hb32
      have z33 := B33.out.size
      have HB34 := Lib.hid (B0.out.trans (B33.out.mono B0.out.size))
      clear hb32
      have La_36 := LB.step La B33.out
      have q37_0 := La_36.cell0
      have q37_1 := La_36.cell1
      have q37_2 := La_36.frozen 0
      have q37_3 := La_36.frozen 1
      have q37_lt := La_36.lt
      have Lb_38 := LB.step Lb B33.out
      have q39_0 := Lb_38.cell0
      have q39_1 := Lb_38.cell1
      have q39_2 := Lb_38.frozen 0
      have q39_3 := Lb_38.frozen 1
      have q39_lt := Lb_38.lt
      have Lr0_40 := LB.step Lr0 B33.out
      have q41_0 := Lr0_40.cell0
      have q41_1 := Lr0_40.cell1
      have q41_2 := Lr0_40.frozen 0
      have q41_3 := Lr0_40.frozen 1
      have q41_lt := Lr0_40.lt
      go_wp2_with fail
      have Hb_42 := Lib.hid (LR.step Hb.out B33.out)
      refine (Right_bad Hb_42.out HVb.out).mono ?_
      rintro e w35 ⟨hb35, rfl⟩
      have B43 := Lib.hid hb35
      have z43 := B43.out.size
      have HB44 := Lib.hid (HB34.out.trans (B43.out.mono HB34.out.size))
      clear hb35
      clear q37_0 q37_1 q37_2 q37_3 q37_lt q39_0 q39_1 q39_2 q39_3 q39_lt q41_0 q41_1 q41_2 q41_3 q41_lt
      have Lr0_45 := LB.step Lr0_40 B43.out
      have q46_0 := Lr0_45.cell0
      have q46_1 := Lr0_45.cell1
      have q46_2 := Lr0_45.frozen 0
      have q46_3 := Lr0_45.frozen 1
      have q46_lt := Lr0_45.lt
      go_wp2
      (try simp only [Exit.inBlock, Exit.then])
      exact end_zero rfl Lr0_45 HB44.out (by omega) HZ.out rfl rfl
  · have HVa := Lib.hid hva
    have HZ := Lib.hid (show r = (0, 30) by rw [HR.out]; exact A2_bad (fun h => hva h.1))
    clear hva HR
    go_enter Tryz.func20, Tryz.ntmps20
    go_wp2_with fail
    refine (Right_bad Ha.out HVa.out).mono ?_
    rintro e w47 ⟨hb47, rfl⟩
    have B48 := Lib.hid hb47
    have z48 := B48.out.size
    have HB49 := Lib.hid (B0.out.trans (B48.out.mono B0.out.size))
    clear hb47
    have Lr0_50 := LB.step Lr0 B48.out
    have q51_0 := Lr0_50.cell0
    have q51_1 := Lr0_50.cell1
    have q51_2 := Lr0_50.frozen 0
    have q51_3 := Lr0_50.frozen 1
    have q51_lt := Lr0_50.lt
    go_wp2
    (try simp only [Exit.inBlock, Exit.then])
    exact end_zero rfl Lr0_50 HB49.out (by omega) HZ.out rfl rfl
set_option maxRecDepth 100000 in
set_option maxHeartbeats 4000000 in
theorem RGcd_any (w : World) (va : Value) (vb : Value) (na : Bool) (da : List Int) (nb : Bool) (db : List Int) (ha : LR w w.heap.size va na da) (hb : LR w w.heap.size vb nb db) :
    Calls Tryz.prog 26 #[va, vb] w fun e w' => Below w.heap.size w w' ∧ RetL w' (A2 (fun a b => ((Int.gcd a b : Int), 0)) (numOf na da) (numOf nb db)) e := by
  obtain ⟨r, hr⟩ : ∃ r, r = A2 (fun a b => ((Int.gcd a b : Int), 0)) (numOf na da) (numOf nb db) := ⟨_, rfl⟩
  rw [← hr]
  have HR := Lib.hid hr
  clear hr
  obtain ⟨Aa, ka, ca, rfl, Ha⟩ := ha.opened
  clear ha
  obtain ⟨Ab, kb, cb, rfl, Hb⟩ := hb.opened
  clear hb
  obtain ⟨w0, hw0⟩ : ∃ w0 : World, w0 = (((w.alloc (.cells #[.bool na, .slice Aa ka ca] 24)).alloc (.cells #[.bool nb, .slice Ab kb cb] 24)).alloc (.cells #[.bool false, .slice none 0 0] 24)) := ⟨_, rfl⟩
  have B0 := Lib.hid (show Below w.heap.size w w0 by rw [hw0]; (repeat' (first | exact Below.refl _ _ | refine Below.drew ?_ | refine Below.alloc ?_ (by first | exact Nat.le_refl _ | (simp; done) | (simp; omega)) _)))
  have z0 : w.heap.size + 3 ≤ w0.heap.size := by rw [hw0]; simp
  have La : LB w0 (w.heap.size) (.bool na) (.slice Aa ka ca) := by rw [hw0]; (repeat (first | (refine LB.new' ?_; simp; done) | refine LB.alloc ?_ _))
  have Lb : LB w0 (w.heap.size + 1) (.bool nb) (.slice Ab kb cb) := by rw [hw0]; (repeat (first | (refine LB.new' ?_; simp; done) | refine LB.alloc ?_ _))
  have Lr0 : LB w0 (w.heap.size + 2) (.bool false) (.slice none 0 0) := by rw [hw0]; (repeat (first | (refine LB.new' ?_; simp; done) | refine LB.alloc ?_ _))
  replace Ha := Lib.hid (Ha.step B0.out)
  replace Hb := Lib.hid (Hb.step B0.out)
  subst hw0
  by_cases hva : Valid na da
  · have HVa := Lib.hid hva
    by_cases hvb : Valid nb db
    · have HVb := Lib.hid hvb
      obtain ⟨x, hx1, hx2, hx3⟩ := LR.num Ha.out hva
      obtain ⟨y, hy1, hy2, hy3⟩ := LR.num Hb.out hvb
      have HX := Lib.hid hx2; have HY := Lib.hid hy2; have HLX := Lib.hid hx3; have HLY := Lib.hid hy3
      have HRR := Lib.hid (show r = ((Int.gcd x y : Int), 0) by rw [HR.out, hx1, hy1]; rfl)
      clear hx1 hx2 hx3 hy1 hy2 hy3 hva hvb HR
      obtain ⟨t, ht⟩ : ∃ t, t = (Int.gcd x y : Int) := ⟨_, rfl⟩
      rw [← ht] at HRR
      have HT := Lib.hid ht
      clear ht
      go_enter Tryz.func26, Tryz.ntmps26
      go_wp2_with fail
      refine (Right_good Ha.out HVa.out).mono ?_
      rintro e w1 ⟨hb1, rfl⟩
      have B2 := Lib.hid hb1
      have z2 := B2.out.size
      have HB3 := Lib.hid (B0.out.trans (B2.out.mono B0.out.size))
      clear hb1
      have La_5 := LB.step La B2.out
      have q6_0 := La_5.cell0
      have q6_1 := La_5.cell1
      have q6_2 := La_5.frozen 0
      have q6_3 := La_5.frozen 1
      have q6_lt := La_5.lt
      have Lb_7 := LB.step Lb B2.out
      have q8_0 := Lb_7.cell0
      have q8_1 := Lb_7.cell1
      have q8_2 := Lb_7.frozen 0
      have q8_3 := Lb_7.frozen 1
      have q8_lt := Lb_7.lt
      have Lr0_9 := LB.step Lr0 B2.out
      have q10_0 := Lr0_9.cell0
      have q10_1 := Lr0_9.cell1
      have q10_2 := Lr0_9.frozen 0
      have q10_3 := Lr0_9.frozen 1
      have q10_lt := Lr0_9.lt
      go_wp2_with fail
      have Hb_11 := Lib.hid (LR.step Hb.out B2.out)
      refine (Right_good Hb_11.out HVb.out).mono ?_
      rintro e w4 ⟨hb4, rfl⟩
      have B12 := Lib.hid hb4
      have z12 := B12.out.size
      have HB13 := Lib.hid (HB3.out.trans (B12.out.mono HB3.out.size))
      clear hb4
      clear q6_0 q6_1 q6_2 q6_3 q6_lt q8_0 q8_1 q8_2 q8_3 q8_lt q10_0 q10_1 q10_2 q10_3 q10_lt
      have La_15 := LB.step La_5 B12.out
      have q16_0 := La_15.cell0
      have q16_1 := La_15.cell1
      have q16_2 := La_15.frozen 0
      have q16_3 := La_15.frozen 1
      have q16_lt := La_15.lt
      have Lb_17 := LB.step Lb_7 B12.out
      have q18_0 := Lb_17.cell0
      have q18_1 := Lb_17.cell1
      have q18_2 := Lb_17.frozen 0
      have q18_3 := Lb_17.frozen 1
      have q18_lt := Lb_17.lt
      have Lr0_19 := LB.step Lr0_9 B12.out
      have q20_0 := Lr0_19.cell0
      have q20_1 := Lr0_19.cell1
      have q20_2 := Lr0_19.frozen 0
      have q20_3 := Lr0_19.frozen 1
      have q20_lt := Lr0_19.lt
      go_wp2_with fail
      have P1_3_21 := Lib.hid (B2.out.trans (B12.out.mono B2.out.size))
      have Hx_22 := Lib.hid (LV.step HX.out P1_3_21.out)
      have Hy_23 := Lib.hid (LV.step HY.out P1_3_21.out)
      refine (RCommon_any _ _ _ x y Hx_22.out Hy_23.out (by have := HLX.out; omega) (by have := HLY.out; omega)).mono ?_
      rintro e w14 ⟨hb14, v3, rfl, hv3⟩
      have B24 := Lib.hid hb14
      have z24 := B24.out.size
      have HB25 := Lib.hid (HB13.out.trans (B24.out.mono HB13.out.size))
      clear hb14
      clear q16_0 q16_1 q16_2 q16_3 q16_lt q18_0 q18_1 q18_2 q18_3 q18_lt q20_0 q20_1 q20_2 q20_3 q20_lt
      rw [← HT.out] at hv3
      obtain ⟨n26, A26, l26, c26, rfl, hv26⟩ := hv3.opened
      have Hv_26 := Lib.hid hv26
      clear hv3 hv26
      have Lr0_27 := LB.step Lr0_19 B24.out
      have q28_0 := Lr0_27.cell0
      have q28_1 := Lr0_27.cell1
      have q28_2 := Lr0_27.frozen 0
      have q28_3 := Lr0_27.frozen 1
      have q28_lt := Lr0_27.lt
      go_wp2
      (try simp only [Exit.inBlock, Exit.then])
      exact end_put rfl Lr0_27 HB25.out (by omega) (Hv_26.out).is.2.2 (Hv_26.out).is.1 HRR.out rfl rfl
    · have HVb := Lib.hid hvb
      have HZ := Lib.hid (show r = (0, 30) by rw [HR.out]; exact A2_bad (fun h => hvb h.2))
      clear hva hvb HR
      go_enter Tryz.func26, Tryz.ntmps26
      go_wp2_with fail
      refine (Right_good Ha.out HVa.out).mono ?_
      rintro e w29 ⟨hb29, rfl⟩
      have B30 := Lib.hid hb29
      have z30 := B30.out.size
      have HB31 := Lib.hid (B0.out.trans (B30.out.mono B0.out.size))
      clear hb29
      have La_33 := LB.step La B30.out
      have q34_0 := La_33.cell0
      have q34_1 := La_33.cell1
      have q34_2 := La_33.frozen 0
      have q34_3 := La_33.frozen 1
      have q34_lt := La_33.lt
      have Lb_35 := LB.step Lb B30.out
      have q36_0 := Lb_35.cell0
      have q36_1 := Lb_35.cell1
      have q36_2 := Lb_35.frozen 0
      have q36_3 := Lb_35.frozen 1
      have q36_lt := Lb_35.lt
      have Lr0_37 := LB.step Lr0 B30.out
      have q38_0 := Lr0_37.cell0
      have q38_1 := Lr0_37.cell1
      have q38_2 := Lr0_37.frozen 0
      have q38_3 := Lr0_37.frozen 1
      have q38_lt := Lr0_37.lt
      go_wp2_with fail
      have Hb_39 := Lib.hid (LR.step Hb.out B30.out)
      refine (Right_bad Hb_39.out HVb.out).mono ?_
      rintro e w32 ⟨hb32, rfl⟩
      have B40 := Lib.hid hb32
      have z40 := B40.out.size
      have HB41 := Lib.hid (HB31.out.trans (B40.out.mono HB31.out.size))
      clear hb32
      clear q34_0 q34_1 q34_2 q34_3 q34_lt q36_0 q36_1 q36_2 q36_3 q36_lt q38_0 q38_1 q38_2 q38_3 q38_lt
      have Lr0_42 := LB.step Lr0_37 B40.out
      have q43_0 := Lr0_42.cell0
      have q43_1 := Lr0_42.cell1
      have q43_2 := Lr0_42.frozen 0
      have q43_3 := Lr0_42.frozen 1
      have q43_lt := Lr0_42.lt
      go_wp2
      (try simp only [Exit.inBlock, Exit.then])
      exact end_zero rfl Lr0_42 HB41.out (by omega) HZ.out rfl rfl
  · have HVa := Lib.hid hva
    have HZ := Lib.hid (show r = (0, 30) by rw [HR.out]; exact A2_bad (fun h => hva h.1))
    clear hva HR
    go_enter Tryz.func26, Tryz.ntmps26
    go_wp2_with fail
    refine (Right_bad Ha.out HVa.out).mono ?_
    rintro e w44 ⟨hb44, rfl⟩
    have B45 := Lib.hid hb44
    have z45 := B45.out.size
    have HB46 := Lib.hid (B0.out.trans (B45.out.mono B0.out.size))
    clear hb44
    have Lr0_47 := LB.step Lr0 B45.out
    have q48_0 := Lr0_47.cell0
    have q48_1 := Lr0_47.cell1
    have q48_2 := Lr0_47.frozen 0
    have q48_3 := Lr0_47.frozen 1
    have q48_lt := Lr0_47.lt
    go_wp2
    (try simp only [Exit.inBlock, Exit.then])
    exact end_zero rfl Lr0_47 HB46.out (by omega) HZ.out rfl rfl
set_option maxRecDepth 100000 in
set_option maxHeartbeats 4000000 in
theorem RCmp_any (w : World) (va : Value) (vb : Value) (na : Bool) (da : List Int) (nb : Bool) (db : List Int) (ha : LR w w.heap.size va na da) (hb : LR w w.heap.size vb nb db) :
    Calls Tryz.prog 51 #[va, vb] w fun e w' => Below w.heap.size w w' ∧ RetI (A2 cmpZ (numOf na da) (numOf nb db)) e := by
  obtain ⟨r, hr⟩ : ∃ r, r = A2 cmpZ (numOf na da) (numOf nb db) := ⟨_, rfl⟩
  rw [← hr]
  have HR := Lib.hid hr
  clear hr
  obtain ⟨Aa, ka, ca, rfl, Ha⟩ := ha.opened
  clear ha
  obtain ⟨Ab, kb, cb, rfl, Hb⟩ := hb.opened
  clear hb
  obtain ⟨w0, hw0⟩ : ∃ w0 : World, w0 = ((w.alloc (.cells #[.bool na, .slice Aa ka ca] 24)).alloc (.cells #[.bool nb, .slice Ab kb cb] 24)) := ⟨_, rfl⟩
  have B0 := Lib.hid (show Below w.heap.size w w0 by rw [hw0]; (repeat' (first | exact Below.refl _ _ | refine Below.drew ?_ | refine Below.alloc ?_ (by first | exact Nat.le_refl _ | (simp; done) | (simp; omega)) _)))
  have z0 : w.heap.size + 2 ≤ w0.heap.size := by rw [hw0]; simp
  have La : LB w0 (w.heap.size) (.bool na) (.slice Aa ka ca) := by rw [hw0]; (repeat (first | (refine LB.new' ?_; simp; done) | refine LB.alloc ?_ _))
  have Lb : LB w0 (w.heap.size + 1) (.bool nb) (.slice Ab kb cb) := by rw [hw0]; (repeat (first | (refine LB.new' ?_; simp; done) | refine LB.alloc ?_ _))
  replace Ha := Lib.hid (Ha.step B0.out)
  replace Hb := Lib.hid (Hb.step B0.out)
  subst hw0
  by_cases hva : Valid na da
  · have HVa := Lib.hid hva
    by_cases hvb : Valid nb db
    · have HVb := Lib.hid hvb
      obtain ⟨x, hx1, hx2, hx3⟩ := LR.num Ha.out hva
      obtain ⟨y, hy1, hy2, hy3⟩ := LR.num Hb.out hvb
      have HX := Lib.hid hx2; have HY := Lib.hid hy2; have HLX := Lib.hid hx3; have HLY := Lib.hid hy3
      have HRR := Lib.hid (show r = cmpZ x y by rw [HR.out, hx1, hy1]; rfl)
      clear hx1 hx2 hx3 hy1 hy2 hy3 hva hvb HR
      go_enter Tryz.func51, Tryz.ntmps51
      go_wp2_with fail
      refine (Right_good Ha.out HVa.out).mono ?_
      rintro e w1 ⟨hb1, rfl⟩
      have B2 := Lib.hid hb1
      have z2 := B2.out.size
      have HB3 := Lib.hid (B0.out.trans (B2.out.mono B0.out.size))
      clear hb1
      have La_5 := LB.step La B2.out
      have q6_0 := La_5.cell0
      have q6_1 := La_5.cell1
      have q6_2 := La_5.frozen 0
      have q6_3 := La_5.frozen 1
      have q6_lt := La_5.lt
      have Lb_7 := LB.step Lb B2.out
      have q8_0 := Lb_7.cell0
      have q8_1 := Lb_7.cell1
      have q8_2 := Lb_7.frozen 0
      have q8_3 := Lb_7.frozen 1
      have q8_lt := Lb_7.lt
      go_wp2_with fail
      have Hb_9 := Lib.hid (LR.step Hb.out B2.out)
      refine (Right_good Hb_9.out HVb.out).mono ?_
      rintro e w4 ⟨hb4, rfl⟩
      have B10 := Lib.hid hb4
      have z10 := B10.out.size
      have HB11 := Lib.hid (HB3.out.trans (B10.out.mono HB3.out.size))
      clear hb4
      clear q6_0 q6_1 q6_2 q6_3 q6_lt q8_0 q8_1 q8_2 q8_3 q8_lt
      have La_13 := LB.step La_5 B10.out
      have q14_0 := La_13.cell0
      have q14_1 := La_13.cell1
      have q14_2 := La_13.frozen 0
      have q14_3 := La_13.frozen 1
      have q14_lt := La_13.lt
      have Lb_15 := LB.step Lb_7 B10.out
      have q16_0 := Lb_15.cell0
      have q16_1 := Lb_15.cell1
      have q16_2 := Lb_15.frozen 0
      have q16_3 := Lb_15.frozen 1
      have q16_lt := Lb_15.lt
      go_wp2_with fail
      have P1_3_17 := Lib.hid (B2.out.trans (B10.out.mono B2.out.size))
      have Hx_18 := Lib.hid (LV.step HX.out P1_3_17.out)
      have Hy_19 := Lib.hid (LV.step HY.out P1_3_17.out)
      refine (ROrder_any _ _ _ x y Hx_18.out Hy_19.out).mono ?_
      rintro e w12 ⟨hb12, rfl⟩
      have B20 := Lib.hid hb12
      have z20 := B20.out.size
      have HB21 := Lib.hid (HB11.out.trans (B20.out.mono HB11.out.size))
      clear hb12
      clear q14_0 q14_1 q14_2 q14_3 q14_lt q16_0 q16_1 q16_2 q16_3 q16_lt
      go_wp2
      go_ret2
      rw [HRR.out]
      exact ⟨HB21.out, rfl⟩
    · have HVb := Lib.hid hvb
      have HZ := Lib.hid (show r = (0, 30) by rw [HR.out]; exact A2_bad (fun h => hvb h.2))
      clear hva hvb HR
      go_enter Tryz.func51, Tryz.ntmps51
      go_wp2_with fail
      refine (Right_good Ha.out HVa.out).mono ?_
      rintro e w22 ⟨hb22, rfl⟩
      have B23 := Lib.hid hb22
      have z23 := B23.out.size
      have HB24 := Lib.hid (B0.out.trans (B23.out.mono B0.out.size))
      clear hb22
      have La_26 := LB.step La B23.out
      have q27_0 := La_26.cell0
      have q27_1 := La_26.cell1
      have q27_2 := La_26.frozen 0
      have q27_3 := La_26.frozen 1
      have q27_lt := La_26.lt
      have Lb_28 := LB.step Lb B23.out
      have q29_0 := Lb_28.cell0
      have q29_1 := Lb_28.cell1
      have q29_2 := Lb_28.frozen 0
      have q29_3 := Lb_28.frozen 1
      have q29_lt := Lb_28.lt
      go_wp2_with fail
      have Hb_30 := Lib.hid (LR.step Hb.out B23.out)
      refine (Right_bad Hb_30.out HVb.out).mono ?_
      rintro e w25 ⟨hb25, rfl⟩
      have B31 := Lib.hid hb25
      have z31 := B31.out.size
      have HB32 := Lib.hid (HB24.out.trans (B31.out.mono HB24.out.size))
      clear hb25
      clear q27_0 q27_1 q27_2 q27_3 q27_lt q29_0 q29_1 q29_2 q29_3 q29_lt
      go_wp2
      go_ret2
      rw [HZ.out]
      exact ⟨HB32.out, rfl⟩
  · have HVa := Lib.hid hva
    have HZ := Lib.hid (show r = (0, 30) by rw [HR.out]; exact A2_bad (fun h => hva h.1))
    clear hva HR
    go_enter Tryz.func51, Tryz.ntmps51
    go_wp2_with fail
    refine (Right_bad Ha.out HVa.out).mono ?_
    rintro e w33 ⟨hb33, rfl⟩
    have B34 := Lib.hid hb33
    have z34 := B34.out.size
    have HB35 := Lib.hid (B0.out.trans (B34.out.mono B0.out.size))
    clear hb33
    go_wp2
    go_ret2
    rw [HZ.out]
    exact ⟨HB35.out, rfl⟩
set_option maxRecDepth 100000 in
set_option maxHeartbeats 4000000 in
theorem RDiv_any (w : World) (va : Value) (vb : Value) (na : Bool) (da : List Int) (nb : Bool) (db : List Int) (ha : LR w w.heap.size va na da) (hb : LR w w.heap.size vb nb db) :
    Calls Tryz.prog 23 #[va, vb] w fun e w' => Below w.heap.size w w' ∧ RetD w' (D2 (numOf na da) (numOf nb db)) e := by
  obtain ⟨r, hr⟩ : ∃ r, r = D2 (numOf na da) (numOf nb db) := ⟨_, rfl⟩
  rw [← hr]
  have HR := Lib.hid hr
  clear hr
  obtain ⟨Aa, ka, ca, rfl, Ha⟩ := ha.opened
  clear ha
  obtain ⟨Ab, kb, cb, rfl, Hb⟩ := hb.opened
  clear hb
  obtain ⟨w0, hw0⟩ : ∃ w0 : World, w0 = ((((w.alloc (.cells #[.bool na, .slice Aa ka ca] 24)).alloc (.cells #[.bool nb, .slice Ab kb cb] 24)).alloc (.cells #[.bool false, .slice none 0 0] 24)).alloc (.cells #[.bool false, .slice none 0 0] 24)) := ⟨_, rfl⟩
  have B0 := Lib.hid (show Below w.heap.size w w0 by rw [hw0]; (repeat' (first | exact Below.refl _ _ | refine Below.drew ?_ | refine Below.alloc ?_ (by first | exact Nat.le_refl _ | (simp; done) | (simp; omega)) _)))
  have z0 : w.heap.size + 4 ≤ w0.heap.size := by rw [hw0]; simp
  have La : LB w0 (w.heap.size) (.bool na) (.slice Aa ka ca) := by rw [hw0]; (repeat (first | (refine LB.new' ?_; simp; done) | refine LB.alloc ?_ _))
  have Lb : LB w0 (w.heap.size + 1) (.bool nb) (.slice Ab kb cb) := by rw [hw0]; (repeat (first | (refine LB.new' ?_; simp; done) | refine LB.alloc ?_ _))
  have Lr0 : LB w0 (w.heap.size + 2) (.bool false) (.slice none 0 0) := by rw [hw0]; (repeat (first | (refine LB.new' ?_; simp; done) | refine LB.alloc ?_ _))
  have Lr1 : LB w0 (w.heap.size + 3) (.bool false) (.slice none 0 0) := by rw [hw0]; (repeat (first | (refine LB.new' ?_; simp; done) | refine LB.alloc ?_ _))
  replace Ha := Lib.hid (Ha.step B0.out)
  replace Hb := Lib.hid (Hb.step B0.out)
  subst hw0
  by_cases hva : Valid na da
  · have HVa := Lib.hid hva
    by_cases hvb : Valid nb db
    · have HVb := Lib.hid hvb
      obtain ⟨x, hx1, hx2, hx3⟩ := LR.num Ha.out hva
      obtain ⟨y, hy1, hy2, hy3⟩ := LR.num Hb.out hvb
      have HX := Lib.hid hx2; have HY := Lib.hid hy2; have HLX := Lib.hid hx3; have HLY := Lib.hid hy3
      clear hva hvb
      by_cases hy0 : y = 0
      · have HZ := Lib.hid (show r = (0, 0, 7) by rw [HR.out, hx1, hy1]; exact if_pos hy0)
        obtain rfl : kb = 0 := (LV.is HY.out).2.1.trans (len_zero hy0)
        clear hx1 hx2 hx3 hy1 hy2 hy3 HR hy0
        go_enter Tryz.func23, Tryz.ntmps23
        go_wp2_with fail
        refine (Right_good Ha.out HVa.out).mono ?_
        rintro e w1 ⟨hb1, rfl⟩
        have B2 := Lib.hid hb1
        have z2 := B2.out.size
        have HB3 := Lib.hid (B0.out.trans (B2.out.mono B0.out.size))
        clear hb1
        have La_5 := LB.step La B2.out
        have q6_0 := La_5.cell0
        have q6_1 := La_5.cell1
        have q6_2 := La_5.frozen 0
        have q6_3 := La_5.frozen 1
        have q6_lt := La_5.lt
        have Lb_7 := LB.step Lb B2.out
        have q8_0 := Lb_7.cell0
        have q8_1 := Lb_7.cell1
        have q8_2 := Lb_7.frozen 0
        have q8_3 := Lb_7.frozen 1
        have q8_lt := Lb_7.lt
        have Lr0_9 := LB.step Lr0 B2.out
        have q10_0 := Lr0_9.cell0
        have q10_1 := Lr0_9.cell1
        have q10_2 := Lr0_9.frozen 0
        have q10_3 := Lr0_9.frozen 1
        have q10_lt := Lr0_9.lt
        have Lr1_11 := LB.step Lr1 B2.out
        have q12_0 := Lr1_11.cell0
        have q12_1 := Lr1_11.cell1
        have q12_2 := Lr1_11.frozen 0
        have q12_3 := Lr1_11.frozen 1
        have q12_lt := Lr1_11.lt
        go_wp2_with fail
        have Hb_13 := Lib.hid (LR.step Hb.out B2.out)
        refine (Right_good Hb_13.out HVb.out).mono ?_
        rintro e w4 ⟨hb4, rfl⟩
        have B14 := Lib.hid hb4
        have z14 := B14.out.size
        have HB15 := Lib.hid (HB3.out.trans (B14.out.mono HB3.out.size))
        clear hb4
        clear q6_0 q6_1 q6_2 q6_3 q6_lt q8_0 q8_1 q8_2 q8_3 q8_lt q10_0 q10_1 q10_2 q10_3 q10_lt q12_0 q12_1 q12_2 q12_3 q12_lt
        have La_16 := LB.step La_5 B14.out
        have q17_0 := La_16.cell0
        have q17_1 := La_16.cell1
        have q17_2 := La_16.frozen 0
        have q17_3 := La_16.frozen 1
        have q17_lt := La_16.lt
        have Lb_18 := LB.step Lb_7 B14.out
        have q19_0 := Lb_18.cell0
        have q19_1 := Lb_18.cell1
        have q19_2 := Lb_18.frozen 0
        have q19_3 := Lb_18.frozen 1
        have q19_lt := Lb_18.lt
        have Lr0_20 := LB.step Lr0_9 B14.out
        have q21_0 := Lr0_20.cell0
        have q21_1 := Lr0_20.cell1
        have q21_2 := Lr0_20.frozen 0
        have q21_3 := Lr0_20.frozen 1
        have q21_lt := Lr0_20.lt
        have Lr1_22 := LB.step Lr1_11 B14.out
        have q23_0 := Lr1_22.cell0
        have q23_1 := Lr1_22.cell1
        have q23_2 := Lr1_22.frozen 0
        have q23_3 := Lr1_22.frozen 1
        have q23_lt := Lr1_22.lt
        go_wp2
        (try simp only [Exit.inBlock, Exit.then])
        exact end_two rfl Lr0_20 Lr1_22 (by omega) HB15.out (by omega) (by omega) (LV.zero _ _) (LV.zero _ _) HZ.out rfl rfl rfl
      · have HRR := Lib.hid (show r = (Int.tdiv x y, Int.tmod x y, 0) by rw [HR.out, hx1, hy1]; exact if_neg hy0)
        have hkb : ((kb : Int) == 0) = false := by rw [beq_eq_false_iff_ne]; have := (LV.is HY.out).2.1; have := len_pos hy0; omega
        have HY0 := Lib.hid hy0
        clear hx1 hx2 hx3 hy1 hy2 hy3 HR hy0
        obtain ⟨zq, hzq⟩ : ∃ t, t = Int.tdiv x y := ⟨_, rfl⟩
        obtain ⟨zr, hzr⟩ : ∃ t, t = Int.tmod x y := ⟨_, rfl⟩
        rw [← hzq, ← hzr] at HRR
        have HZQ := Lib.hid hzq
        have HZR := Lib.hid hzr
        clear hzq hzr
        go_enter Tryz.func23, Tryz.ntmps23
        go_wp2_with fail
        refine (Right_good Ha.out HVa.out).mono ?_
        rintro e w24 ⟨hb24, rfl⟩
        have B25 := Lib.hid hb24
        have z25 := B25.out.size
        have HB26 := Lib.hid (B0.out.trans (B25.out.mono B0.out.size))
        clear hb24
        have La_28 := LB.step La B25.out
        have q29_0 := La_28.cell0
        have q29_1 := La_28.cell1
        have q29_2 := La_28.frozen 0
        have q29_3 := La_28.frozen 1
        have q29_lt := La_28.lt
        have Lb_30 := LB.step Lb B25.out
        have q31_0 := Lb_30.cell0
        have q31_1 := Lb_30.cell1
        have q31_2 := Lb_30.frozen 0
        have q31_3 := Lb_30.frozen 1
        have q31_lt := Lb_30.lt
        have Lr0_32 := LB.step Lr0 B25.out
        have q33_0 := Lr0_32.cell0
        have q33_1 := Lr0_32.cell1
        have q33_2 := Lr0_32.frozen 0
        have q33_3 := Lr0_32.frozen 1
        have q33_lt := Lr0_32.lt
        have Lr1_34 := LB.step Lr1 B25.out
        have q35_0 := Lr1_34.cell0
        have q35_1 := Lr1_34.cell1
        have q35_2 := Lr1_34.frozen 0
        have q35_3 := Lr1_34.frozen 1
        have q35_lt := Lr1_34.lt
        go_wp2_with fail
        have Hb_36 := Lib.hid (LR.step Hb.out B25.out)
        refine (Right_good Hb_36.out HVb.out).mono ?_
        rintro e w27 ⟨hb27, rfl⟩
        have B37 := Lib.hid hb27
        have z37 := B37.out.size
        have HB38 := Lib.hid (HB26.out.trans (B37.out.mono HB26.out.size))
        clear hb27
        clear q29_0 q29_1 q29_2 q29_3 q29_lt q31_0 q31_1 q31_2 q31_3 q31_lt q33_0 q33_1 q33_2 q33_3 q33_lt q35_0 q35_1 q35_2 q35_3 q35_lt
        have La_40 := LB.step La_28 B37.out
        have q41_0 := La_40.cell0
        have q41_1 := La_40.cell1
        have q41_2 := La_40.frozen 0
        have q41_3 := La_40.frozen 1
        have q41_lt := La_40.lt
        have Lb_42 := LB.step Lb_30 B37.out
        have q43_0 := Lb_42.cell0
        have q43_1 := Lb_42.cell1
        have q43_2 := Lb_42.frozen 0
        have q43_3 := Lb_42.frozen 1
        have q43_lt := Lb_42.lt
        have Lr0_44 := LB.step Lr0_32 B37.out
        have q45_0 := Lr0_44.cell0
        have q45_1 := Lr0_44.cell1
        have q45_2 := Lr0_44.frozen 0
        have q45_3 := Lr0_44.frozen 1
        have q45_lt := Lr0_44.lt
        have Lr1_46 := LB.step Lr1_34 B37.out
        have q47_0 := Lr1_46.cell0
        have q47_1 := Lr1_46.cell1
        have q47_2 := Lr1_46.frozen 0
        have q47_3 := Lr1_46.frozen 1
        have q47_lt := Lr1_46.lt
        go_wp2_with fail
        have P1_3_48 := Lib.hid (B25.out.trans (B37.out.mono B25.out.size))
        have Hx_49 := Lib.hid (LV.step HX.out P1_3_48.out)
        have Hy_50 := Lib.hid (LV.step HY.out P1_3_48.out)
        refine (RParts_any _ _ _ x y Hx_49.out Hy_50.out HY0.out (by have := HLX.out; omega) (by have := HLY.out; omega)).mono ?_
        rintro e w39 ⟨hb39, v3, v4, rfl, hv3, hv4⟩
        have B51 := Lib.hid hb39
        have z51 := B51.out.size
        have HB52 := Lib.hid (HB38.out.trans (B51.out.mono HB38.out.size))
        clear hb39
        clear q41_0 q41_1 q41_2 q41_3 q41_lt q43_0 q43_1 q43_2 q43_3 q43_lt q45_0 q45_1 q45_2 q45_3 q45_lt q47_0 q47_1 q47_2 q47_3 q47_lt
        rw [← HZQ.out] at hv3
        rw [← HZR.out] at hv4
        obtain ⟨n53, A53, l53, c53, rfl, hv53⟩ := hv3.opened
        have Hvq_53 := Lib.hid hv53
        clear hv3 hv53
        obtain ⟨n54, A54, l54, c54, rfl, hv54⟩ := hv4.opened
        have Hvr_54 := Lib.hid hv54
        clear hv4 hv54
        go_wp2_with fail
        obtain ⟨w55, hW55⟩ : ∃ w55 : World, w55 = ((w39.alloc (.cells #[.bool n53, .slice A53 l53 c53] 24)).alloc (.cells #[.bool n54, .slice A54 l54 c54] 24)) := ⟨_, rfl⟩
        rw [← hW55]
        have hb55 : Below w39.heap.size w39 w55 := by rw [hW55]; (repeat' (first | exact Below.refl _ _ | refine Below.drew ?_ | refine Below.alloc ?_ (by first | exact Nat.le_refl _ | (simp; done) | (simp; omega)) _))
        have Lq_55 : LB w55 (w39.heap.size) (.bool n53) (.slice A53 l53 c53) := by rw [hW55]; (repeat (first | (refine LB.new' ?_; simp; done) | refine LB.alloc ?_ _))
        have Lrr_55 : LB w55 (w39.heap.size + 1) (.bool n54) (.slice A54 l54 c54) := by rw [hW55]; (repeat (first | (refine LB.new' ?_; simp; done) | refine LB.alloc ?_ _))
        have za55 : w39.heap.size + 2 ≤ w55.heap.size := by rw [hW55]; simp
        have B56 := Lib.hid hb55
        have z56 := B56.out.size
        have HB57 := Lib.hid (HB52.out.trans (B56.out.mono HB52.out.size))
        clear hb55 hW55
        have q58_0 := Lq_55.cell0
        have q58_1 := Lq_55.cell1
        have q58_2 := Lq_55.frozen 0
        have q58_3 := Lq_55.frozen 1
        have q58_lt := Lq_55.lt
        have q59_0 := Lrr_55.cell0
        have q59_1 := Lrr_55.cell1
        have q59_2 := Lrr_55.frozen 0
        have q59_3 := Lrr_55.frozen 1
        have q59_lt := Lrr_55.lt
        have P3_5_60 := Lib.hid (B51.out.trans (B56.out.mono B51.out.size))
        have Lr0_61 := LB.step Lr0_44 P3_5_60.out
        have q62_0 := Lr0_61.cell0
        have q62_1 := Lr0_61.cell1
        have q62_2 := Lr0_61.frozen 0
        have q62_3 := Lr0_61.frozen 1
        have q62_lt := Lr0_61.lt
        have Lr1_63 := LB.step Lr1_46 P3_5_60.out
        have q64_0 := Lr1_63.cell0
        have q64_1 := Lr1_63.cell1
        have q64_2 := Lr1_63.frozen 0
        have q64_3 := Lr1_63.frozen 1
        have q64_lt := Lr1_63.lt
        have Hvq_65 := Lib.hid (LV.step Hvq_53.out B56.out)
        have Hvr_66 := Lib.hid (LV.step Hvr_54.out B56.out)
        go_region_with (fail)
        all_goals
          go_wp2
          (try simp only [Exit.inBlock, Exit.then])
          exact end_two' rfl Lr0_61 Lr1_63 (by omega) HB57.out (by omega) (by omega) Hvq_65.out Hvr_66.out HRR.out rfl rfl rfl
    · have HVb := Lib.hid hvb
      have HZ := Lib.hid (show r = (0, 0, 30) by rw [HR.out]; exact D2_bad (fun h => hvb h.2))
      clear hva hvb HR
      go_enter Tryz.func23, Tryz.ntmps23
      go_wp2_with fail
      refine (Right_good Ha.out HVa.out).mono ?_
      rintro e w67 ⟨hb67, rfl⟩
      have B68 := Lib.hid hb67
      have z68 := B68.out.size
      have HB69 := Lib.hid (B0.out.trans (B68.out.mono B0.out.size))
      clear hb67
      have La_71 := LB.step La B68.out
      have q72_0 := La_71.cell0
      have q72_1 := La_71.cell1
      have q72_2 := La_71.frozen 0
      have q72_3 := La_71.frozen 1
      have q72_lt := La_71.lt
      have Lb_73 := LB.step Lb B68.out
      have q74_0 := Lb_73.cell0
      have q74_1 := Lb_73.cell1
      have q74_2 := Lb_73.frozen 0
      have q74_3 := Lb_73.frozen 1
      have q74_lt := Lb_73.lt
      have Lr0_75 := LB.step Lr0 B68.out
      have q76_0 := Lr0_75.cell0
      have q76_1 := Lr0_75.cell1
      have q76_2 := Lr0_75.frozen 0
      have q76_3 := Lr0_75.frozen 1
      have q76_lt := Lr0_75.lt
      have Lr1_77 := LB.step Lr1 B68.out
      have q78_0 := Lr1_77.cell0
      have q78_1 := Lr1_77.cell1
      have q78_2 := Lr1_77.frozen 0
      have q78_3 := Lr1_77.frozen 1
      have q78_lt := Lr1_77.lt
      go_wp2_with fail
      have Hb_79 := Lib.hid (LR.step Hb.out B68.out)
      refine (Right_bad Hb_79.out HVb.out).mono ?_
      rintro e w70 ⟨hb70, rfl⟩
      have B80 := Lib.hid hb70
      have z80 := B80.out.size
      have HB81 := Lib.hid (HB69.out.trans (B80.out.mono HB69.out.size))
      clear hb70
      clear q72_0 q72_1 q72_2 q72_3 q72_lt q74_0 q74_1 q74_2 q74_3 q74_lt q76_0 q76_1 q76_2 q76_3 q76_lt q78_0 q78_1 q78_2 q78_3 q78_lt
      have Lr0_82 := LB.step Lr0_75 B80.out
      have q83_0 := Lr0_82.cell0
      have q83_1 := Lr0_82.cell1
      have q83_2 := Lr0_82.frozen 0
      have q83_3 := Lr0_82.frozen 1
      have q83_lt := Lr0_82.lt
      have Lr1_84 := LB.step Lr1_77 B80.out
      have q85_0 := Lr1_84.cell0
      have q85_1 := Lr1_84.cell1
      have q85_2 := Lr1_84.frozen 0
      have q85_3 := Lr1_84.frozen 1
      have q85_lt := Lr1_84.lt
      go_wp2
      (try simp only [Exit.inBlock, Exit.then])
      exact end_two rfl Lr0_82 Lr1_84 (by omega) HB81.out (by omega) (by omega) (LV.zero _ _) (LV.zero _ _) HZ.out rfl rfl rfl
  · have HVa := Lib.hid hva
    have HZ := Lib.hid (show r = (0, 0, 30) by rw [HR.out]; exact D2_bad (fun h => hva h.1))
    clear hva HR
    go_enter Tryz.func23, Tryz.ntmps23
    go_wp2_with fail
    refine (Right_bad Ha.out HVa.out).mono ?_
    rintro e w86 ⟨hb86, rfl⟩
    have B87 := Lib.hid hb86
    have z87 := B87.out.size
    have HB88 := Lib.hid (B0.out.trans (B87.out.mono B0.out.size))
    clear hb86
    have Lr0_89 := LB.step Lr0 B87.out
    have q90_0 := Lr0_89.cell0
    have q90_1 := Lr0_89.cell1
    have q90_2 := Lr0_89.frozen 0
    have q90_3 := Lr0_89.frozen 1
    have q90_lt := Lr0_89.lt
    have Lr1_91 := LB.step Lr1 B87.out
    have q92_0 := Lr1_91.cell0
    have q92_1 := Lr1_91.cell1
    have q92_2 := Lr1_91.frozen 0
    have q92_3 := Lr1_91.frozen 1
    have q92_lt := Lr1_91.lt
    go_wp2
    (try simp only [Exit.inBlock, Exit.then])
    exact end_two rfl Lr0_89 Lr1_91 (by omega) HB88.out (by omega) (by omega) (LV.zero _ _) (LV.zero _ _) HZ.out rfl rfl rfl
end Go.Proofs.YtnbanlmkoljghaaGreatDoor

/- The reference's Of. -/
namespace Go.Proofs.YtnbanlmkoljghaaGreatDoor
open Go Go.RowKit Dig

set_option maxRecDepth 100000 in
set_option maxHeartbeats 2000000 in
theorem ROf_any (w : World) (n : Int) (h0 : -9223372036854775808 ≤ n) (h1 : n ≤ 9223372036854775807) :
    Calls Tryz.prog 31 #[.int .i64 n] w fun e w' => Below w.heap.size w w' ∧ RetV w' n e := by
  obtain ⟨i0, hi, hz0, hz1, hz2⟩ := info_parts info_int
  have H3 := Lib.hid (show (dig n.natAbs).length ≤ 3 by rw [dig_len_le]; show n.natAbs < 1000000000000000000000000000; omega)
  obtain ⟨ng, hng⟩ : ∃ ng, ng = decide (n < 0) := ⟨_, rfl⟩
  have HNG := Lib.hid (show sgn ng n.natAbs = n by rw [hng]; exact sgn_natAbs n)
  have HNG2 := Lib.hid hng.symm
  clear hng
  go_enter Tryz.func31, Tryz.ntmps31
  go_wp2
  rw [HNG2.out]
  have L0 : LB (w.alloc (.cells #[.bool false, .slice none 0 0] 24)) w.heap.size (.bool false) (.slice none 0 0) := by (repeat (first | (refine LB.new' ?_; simp; done) | refine LB.alloc ?_ _))
  go_loopw [0, 3] (fun nv dv wr => ∃ (k : Int) (ds : List Nat) (v : Value), nv = .int .i64 k ∧ v = dv ∧ -9223372036854775808 ≤ k ∧ k ≤ 9223372036854775807 ∧ Hid (dig n.natAbs = ds ++ dig k.natAbs) ∧ Hid (ds.length ≤ 20) ∧ Hid (Small ds) ∧ LB wr w.heap.size (.bool false) (.slice none 0 0) ∧ Hid (OwnV wr (w.heap.size + 1) v (ni ds)) ∧ Hid (w.heap.size + 1 ≤ wr.heap.size) ∧ Hid (Below w.heap.size w wr)) (fun nv _ _ => (intOf nv).natAbs)
  case atStart => exact ⟨n, [], _, rfl, rfl, h0, h1, Lib.hid (by simp), Lib.hid (by simp), Lib.hid Small.nil, L0, Lib.hid (OwnV.nil _ _), Lib.hid (by simp), Lib.hid (by (repeat' (first | exact Below.refl _ _ | refine Below.drew ?_ | refine Below.alloc ?_ (by first | exact Nat.le_refl _ | (simp; done) | (simp; omega)) _)))⟩
  case round =>
    clear L0 h0 h1
    obtain ⟨k, ds, v, rfl, rfl, hk0, hk1, hd, hlen, hsm, L0, ho, hsz, hbw⟩ := hrel
    by_cases hk : k = 0
    · have HDS := Lib.hid (show val ds = n.natAbs by rw [← val_dig n.natAbs, hd.out, hk, show (0 : Int).natAbs = 0 from rfl, dig_zero, List.append_nil])
      have HRN := Lib.hid (show RN wr wr.heap.size _ ds from ho.out.ri)
      subst hk
      clear hk0 hk1
      go_wp2_with fail
      refine (made_any _ _ _ ds HRN.out hsm.out (by have := hlen.out; omega)).mono ?_
      rintro e w2 ⟨hb2, v2, rfl, hv2⟩
      rw [HDS.out, HNG.out] at hv2
      obtain ⟨n3, A3, l3, c3, rfl, hv3⟩ := hv2.opened
      have HV3 := Lib.hid hv3
      have N0 := L0.step hb2
      have HB2 := Lib.hid (hbw.out.trans (hb2.mono hbw.out.size))
      clear hv2 hv3 hb2 L0 hbw
      have q20 := N0.cell0; have q21 := N0.cell1; have q22 := N0.frozen 0; have q23 := N0.frozen 1
      go_wp2
      (try simp only [Exit.inBlock, Exit.then])
      exact end_long rfl N0 HB2.out (by omega) HV3.out rfl
    · have hkb : (k != 0) = true := by simpa using hk
      have hna : (k.tmod 1000000000).natAbs = k.natAbs % 1000000000 := Int.natAbs_tmod k 1000000000
      have hnd : (k.tdiv 1000000000).natAbs = k.natAbs / 1000000000 := Int.natAbs_tdiv k 1000000000
      have hm0 : -1000000000 < k.tmod 1000000000 := by have := Nat.mod_lt k.natAbs (show 1000000000 > 0 by decide); omega
      have hm1 : k.tmod 1000000000 < 1000000000 := by have := Nat.mod_lt k.natAbs (show 1000000000 > 0 by decide); omega
      obtain ⟨d, hd9⟩ : ∃ d : Nat, d = k.natAbs % 1000000000 := ⟨_, rfl⟩
      have hdlt : d < 1000000000 := by rw [hd9]; exact Nat.mod_lt _ (by decide)
      have HD := Lib.hid hnd
      have HD9 := Lib.hid hd9
      have HNA := Lib.hid (hna.trans hd9.symm)
      clear hnd hd9 hna
      go_upto_if 13 with (fail)
      obtain ⟨m, hm⟩ : ∃ m, k.tmod 1000000000 = m := ⟨_, rfl⟩
      rw [hm] at hm0 hm1 HNA ⊢
      clear hm
      go_cut [5] (fun rv wx => rv = .int .i64 (d : Int) ∧ wx = wr)
      case first =>
        by_cases hneg : m < 0
        · rw [decide_eq_true hneg]
          have HE := Lib.hid (show -m = (d : Int) by have := HNA.out; omega)
          clear hneg
          go_wp2
          go_meet
          exact ⟨by rw [HE.out], rfl⟩
        · rw [decide_eq_false hneg]
          have HE := Lib.hid (show m = (d : Int) by have := HNA.out; omega)
          clear hneg
          go_wp2
          go_meet
          exact ⟨by rw [HE.out], rfl⟩
      case rest =>
        obtain ⟨rfl, rfl⟩ := hcut
        have hl20 := hlen.out
        have hown := ho.out.alloc (.cells #[.int .i64 (d : Int)] 3)
        clear hm0 hm1
        go_wp2_with (at_builtin; refine wpList_append_own_at _ rfl _ _ 22 rfl (w.heap.size + 1) 3 i0 (.int .i64 0) 1 8 Tryz.underlying22 hi hz0 hz1 hz2 rfl (by decide) v (ni ds).length ((ni ds).map (Value.int .i64)) rfl hown ⟨wc.heap.size, 0, none⟩ 1 1 [.int .i64 (d : Int)] rfl rfl (cell_one_new _ _ _) (by intro u hu; simp at hu; subst hu; rfl) (by rw [ni_length]; unfold maxLen; omega) (by rw [ni_length]; omega) (by have := hsz.out; simp; omega) ?_)
        intro v' w' hown' hgrow hne hblk
        have hv' : OwnV w' (w.heap.size + 1) v' (ni (ds ++ [d])) := by rw [ni_append]; exact push_int hown'
        have hrow : ∀ b, b < w.heap.size + 1 → v.ownBlock ≠ some b := fun b hb he => by
          have := (World.ownsRow.lt ho.out b he).1
          omega
        have M0 := (L0.alloc (.cells #[.int .i64 (d : Int)] 3)).grown hgrow (hrow _ (by omega))
        have HB2 := Lib.hid ((hbw.out.alloc hbw.out.size (.cells #[.int .i64 (d : Int)] 3)).grown hgrow (by have := hbw.out.size; simp; omega) (fun g he => by have := (World.ownsRow.lt ho.out g he).1; omega))
        have HS2 := Lib.hid (show w.heap.size + 1 ≤ w'.heap.size by have h1 := hgrow.size; have h2 := hsz.out; simp at h1; omega)
        have HV := Lib.hid hv'
        have HSM := Lib.hid (hsm.out.append (Small.cons hdlt Small.nil))
        have HDD := Lib.hid (show dig n.natAbs = (ds ++ [d]) ++ dig (k.tdiv 1000000000).natAbs by rw [hd.out, HD.out, dig_pos (by omega : k.natAbs ≠ 0), HD9.out]; simp)
        have HLL := Lib.hid (show (ds ++ [d]).length ≤ 20 by have h := H3.out; rw [HDD.out] at h; simp at h ⊢; omega)
        have hk2 : -9223372036854775808 ≤ k.tdiv 1000000000 := by have := HD.out; omega
        have hk3 : k.tdiv 1000000000 ≤ 9223372036854775807 := by have := HD.out; omega
        have HKM := Lib.hid (show (k.tdiv 1000000000).natAbs < k.natAbs by have := HD.out; omega)
        rcases hv'.form with ⟨_, he⟩ | ⟨g, cap, rfl, _⟩
        · simp [ni] at he
        clear hown' hgrow hne hblk hown hv' hrow ho hsz hbw L0 hdlt
        go_wp2
        go_roundw
        case rel => exact ⟨k.tdiv 1000000000, ds ++ [d], _, rfl, rfl, hk2, hk3, HDD, HLL, HSM, M0, HV, HS2, HB2⟩
        case measure => simp only [intOf]; exact HKM.out
end Go.Proofs.YtnbanlmkoljghaaGreatDoor

/- The reference's Root and Sqrt (written by gen_rroot.py). -/
namespace Go.Proofs.YtnbanlmkoljghaaGreatDoor
open Go Go.RowKit Dig

theorem root_above {A X : Nat} (h : A < X * X) : rootN A ≤ X := by
  apply Nat.le_of_not_lt; intro hc
  have h1 := (rootN_spec A).1
  have h2 : X * X ≤ rootN A * rootN A := Nat.mul_le_mul (Nat.le_of_lt hc) (Nat.le_of_lt hc)
  omega
theorem root_here {A X : Nat} (h1 : X * X ≤ A) (h2 : rootN A ≤ X) : X = rootN A := by
  refine rootN_eq h1 ?_
  have h3 := (rootN_spec A).2
  have h4 : (rootN A + 1) * (rootN A + 1) ≤ (X + 1) * (X + 1) := Nat.mul_le_mul (by omega) (by omega)
  omega
theorem root_pos {A : Nat} (h : A ≠ 0) : 0 < rootN A := by
  apply Nat.pos_of_ne_zero; intro h0
  have := (rootN_spec A).2
  rw [h0] at this
  omega
theorem root_first (A : Nat) : A < bp ((dig A).length / 2 + 1) * bp ((dig A).length / 2 + 1) := by
  rw [← bp_add]
  exact Nat.lt_of_lt_of_le (dig_lt A) (bp_le (by omega))
theorem bp_len (k : Nat) : (dig (bp k)).length = k + 1 := by
  have h1 : (dig (bp k)).length ≤ k + 1 := dig_len_le.2 (by rw [bp_succ]; have := bp_pos k; omega)
  have h2 : ¬ (dig (bp k)).length ≤ k := fun h => by have := dig_len_le.1 h; omega
  omega
theorem one_row (k : Nat) : (List.replicate (k + 2) (0 : Int)).set (k + 1) 1 = ni (List.replicate (k + 1) 0 ++ [1]) := by
  have h := set_next (List.replicate (k + 1) (0 : Int)) 0 1 0
  rw [List.length_replicate] at h
  rw [show List.replicate (k + 2) (0 : Int) = List.replicate (k + 1) 0 ++ List.replicate (0 + 1) 0 from List.replicate_succ', h]
  simp [ni]
theorem one_small (k : Nat) : Small (List.replicate (k + 1) 0 ++ [1]) := (Small.replicate _).append (Small.cons (by omega) Small.nil)
theorem one_val (k : Nat) : val (List.replicate (k + 1) 0 ++ [1]) = bp (k + 1) := by
  rw [val_append, val_replicate, List.length_replicate]; simp [val]
theorem two_len : (dig (2 : Int).natAbs).length ≤ 90000 := Nat.le_trans (dig_len_le.2 (show 2 < bp 1 by decide)) (by omega)
theorem tdiv_nat (a b : Nat) : Int.tdiv (a : Int) (b : Int) = ((a / b : Nat) : Int) := (Int.ofNat_tdiv a b).symm

set_option maxRecDepth 100000 in
set_option maxHeartbeats 4000000 in
theorem RRoot_any (w : World) (va : Value) (N : Nat) (ha : LV w w.heap.size va (N : Int)) (hla : (dig N).length ≤ 80000) :
    Calls Tryz.prog 78 #[va] w fun e w' => Below w.heap.size w w' ∧ RetV w' (rootN N : Int) e := by
  obtain ⟨na, Aa, la, ca, rfl, HA⟩ := ha.opened
  have hl1 : la = (dig N).length := HA.is.2.1
  clear ha
  obtain ⟨w0, hw0⟩ : ∃ w0 : World, w0 = (w.alloc (.cells #[.bool na, .slice Aa la ca] 24)).alloc (.cells #[.bool false, .slice none 0 0] 24) := ⟨_, rfl⟩
  have B0 := Lib.hid (show Below w.heap.size w w0 by rw [hw0]; (repeat' (first | exact Below.refl _ _ | refine Below.drew ?_ | refine Below.alloc ?_ (by first | exact Nat.le_refl _ | (simp; done) | (simp; omega)) _)))
  have La : LB w0 w.heap.size (.bool na) (.slice Aa la ca) := by rw [hw0]; (repeat (first | (refine LB.new' ?_; simp; done) | refine LB.alloc ?_ _))
  have Lr : LB w0 (w.heap.size + 1) (.bool false) (.slice none 0 0) := by rw [hw0]; (repeat (first | (refine LB.new' ?_; simp; done) | refine LB.alloc ?_ _))
  have z0 : w.heap.size + 2 ≤ w0.heap.size := by rw [hw0]; simp
  have z1 : w0.heap.size ≤ w.heap.size + 2 := by rw [hw0]; simp
  have HA0 := Lib.hid HA
  replace HA := Lib.hid (HA.step B0.out)
  by_cases hN : N = 0
  · obtain rfl : la = 0 := by rw [hl1, hN, dig_zero]; rfl
    have HR := Lib.hid (show ((rootN N : Nat) : Int) = (N : Int) by have := rootN_le N; omega)
    rw [HR.out]
    clear hN hw0 hl1
    have BA := Lib.hid (show Below w.heap.size w ((w.alloc (.cells #[.bool na, .slice Aa 0 ca] 24)).alloc (.cells #[.bool na, .slice Aa 0 ca] 24)) by (repeat' (first | exact Below.refl _ _ | refine Below.drew ?_ | refine Below.alloc ?_ (by first | exact Nat.le_refl _ | (simp; done) | (simp; omega)) _)))
    have LA : LB ((w.alloc (.cells #[.bool na, .slice Aa 0 ca] 24)).alloc (.cells #[.bool na, .slice Aa 0 ca] 24)) (w.heap.size + 1) (.bool na) (.slice Aa 0 ca) := by (repeat (first | (refine LB.new' ?_; simp; done) | refine LB.alloc ?_ _))
    have HAA := Lib.hid (HA0.out.step BA.out)
    go_enter Tryz.func78, Tryz.ntmps78
    go_wp2
    (try simp only [Exit.inBlock, Exit.then])
    exact bodyPost_ret (LB.ret1 rfl _ LA rfl) rfl ⟨BA.out, _, rfl, HAA.out⟩
  · have hlb : ((la : Int) == 0) = false := by rw [beq_eq_false_iff_ne]; have := dig_len_pos hN; omega
    obtain ⟨k, hk⟩ : ∃ k, k = la / 2 := ⟨_, rfl⟩
    have hkd : (la : Int) / 2 = (k : Int) := by omega
    have hk4 : k ≤ 40000 := by omega
    have HF := Lib.hid (show rootN N ≤ bp (k + 1) from root_above (by rw [hk, hl1]; exact root_first N))
    have hmk := mk_ints (k + 2) (by omega)
    rw [show ((k + 2 : Nat) : Int) = (k : Int) + 2 by omega] at hmk
    have HN := Lib.hid hN
    have HLA := Lib.hid (show (dig N).length ≤ 80000 from hla)
    have hki0 : (0 : Int) ≤ (k : Int) + 1 := by omega
    have hki1 : (k : Int) + 1 < (k : Int) + 2 := by omega
    have hrow := own_new w0 (k + 2)
    have hb1 := Lib.hid ((Below.refl w0.heap.size w0).alloc (Nat.le_refl _) (zerosObj (k + 2)))
    clear hN hl1 hk hla
    replace hw0 := Lib.hid hw0
    go_enter Tryz.func78, Tryz.ntmps78
    go_upto_region 4 with (fail)
    rw [← hw0.out]
    have hsz0 : w0.heap.size = w.heap.size + 2 := by omega
    rw [hsz0] at hrow
    have hc := hrow.cell (k + 1) (by simp)
    have hf := hrow.frozen (k + 1)
    have La1 := La.alloc (zerosObj (k + 2))
    have Lr1 := Lr.alloc (zerosObj (k + 2))
    have HA1 := Lib.hid (HA.out.step hb1.out)
    have HB1 := Lib.hid (B0.out.trans (hb1.out.mono B0.out.size))
    have hz1 : w.heap.size + 3 ≤ (w0.alloc (zerosObj (k + 2))).heap.size := by simp; omega
    clear La Lr HA B0 hb1 hsz0 hw0 hmk z0 z1
    generalize (w0.alloc (zerosObj (k + 2))) = w1 at *
    have hset := hrow.set (k + 1) 1 (by simp)
    rw [one_row] at hset
    obtain ⟨w2, hw2⟩ : ∃ w2 : World, w2 = w1.setCell ⟨w.heap.size + 2, k + 1, none⟩ (.int .i64 1) := ⟨_, rfl⟩
    rw [← hw2] at hset
    have HO2 := Lib.hid (own_rn hset (k + 2) (k + 2) (by simp) (Nat.le_refl _) (by omega))
    have La2 : LB w2 w.heap.size (.bool na) (.slice Aa la ca) := by rw [hw2]; exact lb_far La1 (by omega)
    have Lr2 : LB w2 (w.heap.size + 1) (.bool false) (.slice none 0 0) := by rw [hw2]; exact lb_far Lr1 (by omega)
    have HB2 := Lib.hid (show Below w.heap.size w w2 by rw [hw2]; exact HB1.out.setCell (p := ⟨w.heap.size + 2, k + 1, none⟩) (by simp) _)
    have HA2 := Lib.hid (show LV w2 w2.heap.size (.agg #[.bool na, .slice Aa la ca]) (N : Int) from HA0.out.step HB2.out)
    have hz2 : w.heap.size + 3 ≤ w2.heap.size := by rw [hw2]; simpa [World.setCell] using hz1
    replace hw2 := Lib.hid hw2
    clear hrow hset
    go_upto_region 5 with (fail)
    rw [← hw2.out]
    have HSM := Lib.hid (one_small k)
    have HLM := Lib.hid (show (List.replicate (k + 1) 0 ++ [1]).length ≤ 1000000 by simp; omega)
    have HVX := Lib.hid (show sgn false (val (List.replicate (k + 1) 0 ++ [1])) = ((bp (k + 1) : Nat) : Int) by rw [one_val]; rfl)
    have HXL := Lib.hid (show (dig (bp (k + 1))).length ≤ 80001 by rw [bp_len]; omega)
    have HXP := Lib.hid (show 0 < bp (k + 1) from bp_pos _)
    clear hw2 hkd hki0 hki1 La1 Lr1 HA1 HB1 hz1 hc hf
    go_wp2_with fail
    refine (made_any _ _ _ _ HO2.out HSM.out HLM.out).mono ?_
    rintro e w3 ⟨hb3, v3, rfl, hv3⟩
    rw [HVX.out] at hv3
    obtain ⟨n3, A3, l3, c3, rfl, hv3⟩ := hv3.opened
    have HU := Lib.hid hb3
    have HV3 := Lib.hid hv3
    clear hb3 hv3
    have La3 := La2.step HU.out
    have Lr3 := Lr2.step HU.out
    have HB3 := Lib.hid (HB2.out.trans (HU.out.mono HB2.out.size))
    have hz3 : w.heap.size + 3 ≤ w3.heap.size := Nat.le_trans hz2 HU.out.size
    clear La2 Lr2 HA2 HB2 hz2 HU HO2 HSM HLM HVX
    go_wp2
    obtain ⟨w4, hw4⟩ : ∃ w4 : World, w4 = w3.alloc (.cells #[.bool n3, .slice A3 l3 c3] 24) := ⟨_, rfl⟩
    rw [← hw4]
    have hb4 : Below w3.heap.size w3 w4 := by rw [hw4]; exact (Below.refl _ _).alloc (Nat.le_refl _) _
    have Lx4 : LB w4 w3.heap.size (.bool n3) (.slice A3 l3 c3) := by rw [hw4]; exact LB.new _ _ _
    have La4 := La3.step hb4
    have Lr4 := Lr3.step hb4
    have HV4 := Lib.hid (hb4 |> HV3.out.step)
    have HB4 := Lib.hid (HB3.out.trans (hb4.mono HB3.out.size))
    have hz4 : w3.heap.size + 1 ≤ w4.heap.size := by rw [hw4]; simp
    clear hw4 hb4 La3 Lr3 HV3 HB3
    go_loopg [5] (bp (k + 1)) (fun gk s5 wr => ∃ (X : Nat) (n3 : Bool) (A3 : Option Addr) (l3 c3 : Nat), Hid (gk = X) ∧ Hid (0 < X) ∧ Hid (rootN N ≤ X) ∧ Hid ((dig X).length ≤ 80001) ∧ LB wr w.heap.size (.bool na) (.slice Aa la ca) ∧ LB wr (w.heap.size + 1) (.bool false) (.slice none 0 0) ∧ LB wr w3.heap.size (.bool n3) (.slice A3 l3 c3) ∧ Hid (LV wr wr.heap.size (.agg #[.bool n3, .slice A3 l3 c3]) (X : Int)) ∧ Hid (Below w.heap.size w wr) ∧ Hid (w3.heap.size + 1 ≤ wr.heap.size))
    case atStart => exact ⟨bp (k + 1), n3, A3, l3, c3, Lib.hid rfl, HXP, HF, HXL, La4, Lr4, Lx4, HV4, HB4, Lib.hid hz4⟩
    case round =>
      clear HXP HF HXL La4 Lr4 Lx4 HV4 HB4 hz4
      obtain ⟨X, n3, A3, l3, c3, hgk, HXP, HF, HXL, La, Lr, Lx, HX, HBW, HSZ⟩ := hrel
      have zr := HSZ.out
      have HX0 := Lib.hid (show (X : Int) ≠ 0 by have := HXP.out; omega)
      obtain ⟨Q, hQ⟩ : ∃ Q, Q = N / X := ⟨_, rfl⟩
      obtain ⟨Y, hY⟩ : ∃ Y, Y = (X + Q) / 2 := ⟨_, rfl⟩
      have HQ := Lib.hid (show Int.tdiv (N : Int) (X : Int) = (Q : Int) by rw [hQ]; exact tdiv_nat N X)
      have HS := Lib.hid (show (X : Int) + (Q : Int) = ((X + Q : Nat) : Int) by omega)
      have HY := Lib.hid (show Int.tdiv ((X + Q : Nat) : Int) 2 = (Y : Int) by rw [hY]; exact tdiv_nat (X + Q) 2)
      have HQL := Lib.hid (show (dig Q).length ≤ 80000 from Nat.le_trans (dig_len_mono (by rw [hQ]; exact Nat.div_le_self _ _)) HLA.out)
      have HSL := Lib.hid (show (dig (X + Q)).length ≤ 90000 from Nat.le_trans (dig_len_add X Q HXL.out (Nat.le_trans HQL.out (by omega))) (by omega))
      have HYL := Lib.hid (show Y < X → (dig Y).length ≤ 80001 from fun h => Nat.le_trans (dig_len_mono (Nat.le_of_lt h)) HXL.out)
      have HYR := Lib.hid (show rootN N ≤ Y by rw [hY, hQ]; exact newton_ge HXP.out (rootN_spec N).1)
      have HYS := Lib.hid (show X ≤ Y → rootN N = X from fun h => (root_here (newton_stop HXP.out (by rw [← hQ, ← hY]; exact h)) HF.out).symm)
      have HYP := Lib.hid (show 0 < Y from Nat.lt_of_lt_of_le (root_pos HN.out) HYR.out)
      clear hQ hY
      have q2_0 := La.cell0
      have q2_1 := La.cell1
      have q2_2 := La.frozen 0
      have q2_3 := La.frozen 1
      have q2_lt := La.lt
      have q3_0 := Lx.cell0
      have q3_1 := Lx.cell1
      have q3_2 := Lx.frozen 0
      have q3_3 := Lx.frozen 1
      have q3_lt := Lx.lt
      go_wp2_with fail
      have Hva_4 := Lib.hid (LV.step HA0.out HBW.out)
      refine (RParts_any _ _ _ (N : Int) (X : Int) Hva_4.out HX.out HX0.out (by have := HLA.out; simpa using Nat.le_trans this (by omega)) (by have := HXL.out; simpa using Nat.le_trans this (by omega))).mono ?_
      rintro e w1 ⟨hb1, v1, v2, rfl, hv1, hv2⟩
      have B5 := Lib.hid hb1
      have z5 := B5.out.size
      have HB6 := Lib.hid (HBW.out.trans (B5.out.mono HBW.out.size))
      clear hb1
      clear q2_0 q2_1 q2_2 q2_3 q2_lt q3_0 q3_1 q3_2 q3_3 q3_lt
      rw [HQ.out] at hv1
      obtain ⟨n7, A7, l7, c7, rfl, hv7⟩ := hv1.opened
      have Hvq_7 := Lib.hid hv7
      clear hv1 hv7
      obtain ⟨n8, A8, l8, c8, rfl, hv8⟩ := hv2.opened
      have Hvm_8 := Lib.hid hv8
      clear hv2 hv8
      have La_9 := LB.step La B5.out
      have q10_0 := La_9.cell0
      have q10_1 := La_9.cell1
      have q10_2 := La_9.frozen 0
      have q10_3 := La_9.frozen 1
      have q10_lt := La_9.lt
      have Lx_11 := LB.step Lx B5.out
      have q12_0 := Lx_11.cell0
      have q12_1 := Lx_11.cell1
      have q12_2 := Lx_11.frozen 0
      have q12_3 := Lx_11.frozen 1
      have q12_lt := Lx_11.lt
      have tokz : True := trivial
      go_upto_region 7 with (fail)
      obtain ⟨w14, hW14⟩ : ∃ w14 : World, w14 = ((w1.alloc (.cells #[.bool n7, .slice A7 l7 c7] 24)).alloc (.cells #[.bool n8, .slice A8 l8 c8] 24)) := ⟨_, rfl⟩
      rw [← hW14]
      have hb14 : Below w1.heap.size w1 w14 := by rw [hW14]; (repeat' (first | exact Below.refl _ _ | refine Below.drew ?_ | refine Below.alloc ?_ (by first | exact Nat.le_refl _ | (simp; done) | (simp; omega)) _))
      have Lq_14 : LB w14 (w1.heap.size) (.bool n7) (.slice A7 l7 c7) := by rw [hW14]; (repeat (first | (refine LB.new' ?_; simp; done) | refine LB.alloc ?_ _))
      have Lm_14 : LB w14 (w1.heap.size + 1) (.bool n8) (.slice A8 l8 c8) := by rw [hW14]; (repeat (first | (refine LB.new' ?_; simp; done) | refine LB.alloc ?_ _))
      have za14 : w1.heap.size + 2 ≤ w14.heap.size := by rw [hW14]; simp
      have B15 := Lib.hid hb14
      have z15 := B15.out.size
      have HB16 := Lib.hid (HB6.out.trans (B15.out.mono HB6.out.size))
      clear hb14 hW14
      clear q10_0 q10_1 q10_2 q10_3 q10_lt q12_0 q12_1 q12_2 q12_3 q12_lt
      have Lx_18 := LB.step Lx_11 B15.out
      have q19_0 := Lx_18.cell0
      have q19_1 := Lx_18.cell1
      have q19_2 := Lx_18.frozen 0
      have q19_3 := Lx_18.frozen 1
      have q19_lt := Lx_18.lt
      have q20_0 := Lq_14.cell0
      have q20_1 := Lq_14.cell1
      have q20_2 := Lq_14.frozen 0
      have q20_3 := Lq_14.frozen 1
      have q20_lt := Lq_14.lt
      go_wp2_with fail
      have P1_3_21 := Lib.hid (B5.out.trans (B15.out.mono B5.out.size))
      have Hvx_22 := Lib.hid (LV.step HX.out P1_3_21.out)
      have Hvq_23 := Lib.hid (LV.step Hvq_7.out B15.out)
      refine (RSum_any _ _ _ (X : Int) (Q : Int) Hvx_22.out Hvq_23.out (by have := HXL.out; simpa using Nat.le_trans this (by omega)) (by have := HQL.out; simpa using Nat.le_trans this (by omega))).mono ?_
      rintro e w17 ⟨hb17, v3, rfl, hv3⟩
      have B24 := Lib.hid hb17
      have z24 := B24.out.size
      have HB25 := Lib.hid (HB16.out.trans (B24.out.mono HB16.out.size))
      clear hb17
      clear q19_0 q19_1 q19_2 q19_3 q19_lt q20_0 q20_1 q20_2 q20_3 q20_lt
      rw [HS.out] at hv3
      obtain ⟨n26, A26, l26, c26, rfl, hv26⟩ := hv3.opened
      have Hvs_26 := Lib.hid hv26
      clear hv3 hv26
      go_wp2_with fail
      refine (ROf_any _ 2 (by decide) (by decide)).mono ?_
      rintro e w27 ⟨hb27, v4, rfl, hv4⟩
      have B28 := Lib.hid hb27
      have z28 := B28.out.size
      have HB29 := Lib.hid (HB25.out.trans (B28.out.mono HB25.out.size))
      clear hb27
      obtain ⟨n30, A30, l30, c30, rfl, hv30⟩ := hv4.opened
      have Hv2_30 := Lib.hid hv30
      clear hv4 hv30
      go_wp2_with fail
      have Hvs_32 := Lib.hid (LV.step Hvs_26.out B28.out)
      refine (RParts_any _ _ _ ((X + Q : Nat) : Int) 2 Hvs_32.out Hv2_30.out (by decide) (by rw [Int.natAbs_natCast]; have := HSL.out; omega) two_len).mono ?_
      rintro e w31 ⟨hb31, v5, v6, rfl, hv5, hv6⟩
      have B33 := Lib.hid hb31
      have z33 := B33.out.size
      have HB34 := Lib.hid (HB29.out.trans (B33.out.mono HB29.out.size))
      clear hb31
      rw [HY.out] at hv5
      obtain ⟨n35, A35, l35, c35, rfl, hv35⟩ := hv5.opened
      have Hvy_35 := Lib.hid hv35
      clear hv5 hv35
      obtain ⟨n36, A36, l36, c36, rfl, hv36⟩ := hv6.opened
      have Hvw_36 := Lib.hid hv36
      clear hv6 hv36
      go_upto_region 8 with (fail)
      obtain ⟨w37, hW37⟩ : ∃ w37 : World, w37 = ((w31.alloc (.cells #[.bool n35, .slice A35 l35 c35] 24)).alloc (.cells #[.bool n36, .slice A36 l36 c36] 24)) := ⟨_, rfl⟩
      rw [← hW37]
      have hb37 : Below w31.heap.size w31 w37 := by rw [hW37]; (repeat' (first | exact Below.refl _ _ | refine Below.drew ?_ | refine Below.alloc ?_ (by first | exact Nat.le_refl _ | (simp; done) | (simp; omega)) _))
      have Ly_37 : LB w37 (w31.heap.size) (.bool n35) (.slice A35 l35 c35) := by rw [hW37]; (repeat (first | (refine LB.new' ?_; simp; done) | refine LB.alloc ?_ _))
      have Lu_37 : LB w37 (w31.heap.size + 1) (.bool n36) (.slice A36 l36 c36) := by rw [hW37]; (repeat (first | (refine LB.new' ?_; simp; done) | refine LB.alloc ?_ _))
      have za37 : w31.heap.size + 2 ≤ w37.heap.size := by rw [hW37]; simp
      have B38 := Lib.hid hb37
      have z38 := B38.out.size
      have HB39 := Lib.hid (HB34.out.trans (B38.out.mono HB34.out.size))
      clear hb37 hW37
      have q41_0 := Ly_37.cell0
      have q41_1 := Ly_37.cell1
      have q41_2 := Ly_37.frozen 0
      have q41_3 := Ly_37.frozen 1
      have q41_lt := Ly_37.lt
      have P3_5_42 := Lib.hid (B24.out.trans (B28.out.mono B24.out.size))
      have P3_6_43 := Lib.hid (P3_5_42.out.trans (B33.out.mono P3_5_42.out.size))
      have P3_7_44 := Lib.hid (P3_6_43.out.trans (B38.out.mono P3_6_43.out.size))
      have Lx_45 := LB.step Lx_18 P3_7_44.out
      have q46_0 := Lx_45.cell0
      have q46_1 := Lx_45.cell1
      have q46_2 := Lx_45.frozen 0
      have q46_3 := Lx_45.frozen 1
      have q46_lt := Lx_45.lt
      go_wp2_with fail
      have Hvy_47 := Lib.hid (LV.step Hvy_35.out B38.out)
      have Hvx_48 := Lib.hid (LV.step Hvx_22.out P3_7_44.out)
      refine (ROrder_any _ _ _ (Y : Int) (X : Int) Hvy_47.out Hvx_48.out).mono ?_
      rintro e w40 ⟨hb40, rfl⟩
      have B49 := Lib.hid hb40
      have z49 := B49.out.size
      have HB50 := Lib.hid (HB39.out.trans (B49.out.mono HB39.out.size))
      clear hb40
      clear q41_0 q41_1 q41_2 q41_3 q41_lt q46_0 q46_1 q46_2 q46_3 q46_lt
      have Lx_51 := LB.step Lx_45 B49.out
      have q52_0 := Lx_51.cell0
      have q52_1 := Lx_51.cell1
      have q52_2 := Lx_51.frozen 0
      have q52_3 := Lx_51.frozen 1
      have q52_lt := Lx_51.lt
      have Ly_53 := LB.step Ly_37 B49.out
      have q54_0 := Ly_53.cell0
      have q54_1 := Ly_53.cell1
      have q54_2 := Ly_53.frozen 0
      have q54_3 := Ly_53.frozen 1
      have q54_lt := Ly_53.lt
      have P1_4_55 := Lib.hid (P1_3_21.out.trans (B24.out.mono P1_3_21.out.size))
      have P1_5_56 := Lib.hid (P1_4_55.out.trans (B28.out.mono P1_4_55.out.size))
      have P1_6_57 := Lib.hid (P1_5_56.out.trans (B33.out.mono P1_5_56.out.size))
      have P1_7_58 := Lib.hid (P1_6_57.out.trans (B38.out.mono P1_6_57.out.size))
      have P1_8_59 := Lib.hid (P1_7_58.out.trans (B49.out.mono P1_7_58.out.size))
      have Lr0_60 := LB.step Lr P1_8_59.out
      have q61_0 := Lr0_60.cell0
      have q61_1 := Lr0_60.cell1
      have q61_2 := Lr0_60.frozen 0
      have q61_3 := Lr0_60.frozen 1
      have q61_lt := Lr0_60.lt
      rw [ord_num]
      by_cases hlt : Y < X
      · rw [if_neg (show ¬ (Y : Int) = (X : Int) by omega), if_pos (show (Y : Int) < (X : Int) by omega)]
        have HYL2 := Lib.hid (HYL.out hlt)
        have HLT := Lib.hid hlt
        clear hlt
        have Hvy_62 := Lib.hid (LV.step Hvy_47.out B49.out)
        have P2_4_63 := Lib.hid (B15.out.trans (B24.out.mono B15.out.size))
        have P2_5_64 := Lib.hid (P2_4_63.out.trans (B28.out.mono P2_4_63.out.size))
        have P2_6_65 := Lib.hid (P2_5_64.out.trans (B33.out.mono P2_5_64.out.size))
        have P2_7_66 := Lib.hid (P2_6_65.out.trans (B38.out.mono P2_6_65.out.size))
        have P2_8_67 := Lib.hid (P2_7_66.out.trans (B49.out.mono P2_7_66.out.size))
        have La_68 := LB.step La_9 P2_8_67.out
        go_wp2
        go_roundg Y
        case measure => rw [hgk.out]; exact HLT.out
        case rel => exact ⟨Y, n35, A35, l35, c35, Lib.hid rfl, HYP, HYR, HYL2, lb_far (lb_far La_68 (by omega)) (by omega), lb_far (lb_far Lr0_60 (by omega)) (by omega), (Lx_51.set0 _).set1 _, Lib.hid (lv_set (Lx_51.set0 _) (lv_set Lx_51 Hvy_62.out)), Lib.hid (below_set1 (below_set1 HB50.out (by omega) _ _) (by omega) _ _), Lib.hid (by simp [World.setCell]; omega)⟩
      · have HRT := Lib.hid (HYS.out (by omega))
        have hc0 : (0 : Int) ≤ (if (Y : Int) = (X : Int) then 0 else if (Y : Int) < (X : Int) then -1 else 1) := (by split; omega; rw [if_neg (by omega)]; omega)
        generalize (if (Y : Int) = (X : Int) then (0 : Int) else if (Y : Int) < (X : Int) then -1 else 1) = cc at *
        clear hlt
        have Hvx_69 := Lib.hid (LV.step Hvx_48.out B49.out)
        go_wp2
        (try simp only [Exit.inBlock, Exit.then])
        rw [HRT.out]
        exact end_long rfl Lr0_60 HB50.out (by omega) Hvx_69.out rfl
end Go.Proofs.YtnbanlmkoljghaaGreatDoor

/- The reference's Sqrt at any Long (written by gen_rtext.py). -/
namespace Go.Proofs.YtnbanlmkoljghaaGreatDoor
open Go Go.RowKit Dig

set_option maxRecDepth 100000 in
set_option maxHeartbeats 4000000 in
theorem RSqrt_any (w : World) (va : Value) (na : Bool) (da : List Int) (ha : LR w w.heap.size va na da) :
    Calls Tryz.prog 34 #[va] w fun e w' => Below w.heap.size w w' ∧ RetL w' (A1 sqrtZ (numOf na da)) e := by
  obtain ⟨r, hr⟩ : ∃ r, r = A1 sqrtZ (numOf na da) := ⟨_, rfl⟩
  rw [← hr]
  have HR := Lib.hid hr
  clear hr
  obtain ⟨Aa, ka, ca, rfl, Ha⟩ := ha.opened
  clear ha
  obtain ⟨w0, hw0⟩ : ∃ w0 : World, w0 = ((w.alloc (.cells #[.bool na, .slice Aa ka ca] 24)).alloc (.cells #[.bool false, .slice none 0 0] 24)) := ⟨_, rfl⟩
  have B0 := Lib.hid (show Below w.heap.size w w0 by rw [hw0]; (repeat' (first | exact Below.refl _ _ | refine Below.drew ?_ | refine Below.alloc ?_ (by first | exact Nat.le_refl _ | (simp; done) | (simp; omega)) _)))
  have z0 : w.heap.size + 2 ≤ w0.heap.size := by rw [hw0]; simp
  have La : LB w0 (w.heap.size) (.bool na) (.slice Aa ka ca) := by rw [hw0]; (repeat (first | (refine LB.new' ?_; simp; done) | refine LB.alloc ?_ _))
  have Lr0 : LB w0 (w.heap.size + 1) (.bool false) (.slice none 0 0) := by rw [hw0]; (repeat (first | (refine LB.new' ?_; simp; done) | refine LB.alloc ?_ _))
  replace Ha := Lib.hid (Ha.step B0.out)
  subst hw0
  by_cases hva : Valid na da
  · have HVa := Lib.hid hva
    obtain ⟨x, hx1, hx2, hx3⟩ := LR.num Ha.out hva
    have HX := Lib.hid hx2; have HLX := Lib.hid hx3
    clear hva
    have hnx := (LV.is HX.out).1
    cases na with
    | true =>
      have HZ := Lib.hid (show r = (0, 2) by rw [HR.out, hx1]; exact if_pos (of_decide_eq_true hnx.symm))
      clear hx1 hx2 hx3 hnx HR
      go_enter Tryz.func34, Tryz.ntmps34
      go_wp2_with fail
      refine (Right_good Ha.out HVa.out).mono ?_
      rintro e w1 ⟨hb1, rfl⟩
      have B2 := Lib.hid hb1
      have z2 := B2.out.size
      have HB3 := Lib.hid (B0.out.trans (B2.out.mono B0.out.size))
      clear hb1
      have La_4 := LB.step La B2.out
      have q5_0 := La_4.cell0
      have q5_1 := La_4.cell1
      have q5_2 := La_4.frozen 0
      have q5_3 := La_4.frozen 1
      have q5_lt := La_4.lt
      have Lr0_6 := LB.step Lr0 B2.out
      have q7_0 := Lr0_6.cell0
      have q7_1 := Lr0_6.cell1
      have q7_2 := Lr0_6.frozen 0
      have q7_3 := Lr0_6.frozen 1
      have q7_lt := Lr0_6.lt
      go_wp2
      (try simp only [Exit.inBlock, Exit.then])
      exact end_zero rfl Lr0_6 HB3.out (by omega) HZ.out rfl rfl
    | false =>
      have hx0 : ¬ x < 0 := of_decide_eq_false hnx.symm
      obtain ⟨N, rfl⟩ := Int.eq_ofNat_of_zero_le (show 0 ≤ x by omega)
      have HRR := Lib.hid (show r = (((rootN N : Nat) : Int), 0) by rw [HR.out, hx1]; show sqrtZ (N : Int) = _; unfold sqrtZ; rw [if_neg hx0, Int.natAbs_natCast])
      clear hx1 hx2 hx3 hnx hx0 HR
      go_enter Tryz.func34, Tryz.ntmps34
      go_wp2_with fail
      refine (Right_good Ha.out HVa.out).mono ?_
      rintro e w8 ⟨hb8, rfl⟩
      have B9 := Lib.hid hb8
      have z9 := B9.out.size
      have HB10 := Lib.hid (B0.out.trans (B9.out.mono B0.out.size))
      clear hb8
      have La_12 := LB.step La B9.out
      have q13_0 := La_12.cell0
      have q13_1 := La_12.cell1
      have q13_2 := La_12.frozen 0
      have q13_3 := La_12.frozen 1
      have q13_lt := La_12.lt
      have Lr0_14 := LB.step Lr0 B9.out
      have q15_0 := Lr0_14.cell0
      have q15_1 := Lr0_14.cell1
      have q15_2 := Lr0_14.frozen 0
      have q15_3 := Lr0_14.frozen 1
      have q15_lt := Lr0_14.lt
      go_wp2_with fail
      have Hx_16 := Lib.hid (LV.step HX.out B9.out)
      refine (RRoot_any _ _ N Hx_16.out (by have := HLX.out; rw [Int.natAbs_natCast] at this; omega)).mono ?_
      rintro e w11 ⟨hb11, v3, rfl, hv3⟩
      have B17 := Lib.hid hb11
      have z17 := B17.out.size
      have HB18 := Lib.hid (HB10.out.trans (B17.out.mono HB10.out.size))
      clear hb11
      clear q13_0 q13_1 q13_2 q13_3 q13_lt q15_0 q15_1 q15_2 q15_3 q15_lt
      obtain ⟨n19, A19, l19, c19, rfl, hv19⟩ := hv3.opened
      have Hv_19 := Lib.hid hv19
      clear hv3 hv19
      have Lr0_20 := LB.step Lr0_14 B17.out
      have q21_0 := Lr0_20.cell0
      have q21_1 := Lr0_20.cell1
      have q21_2 := Lr0_20.frozen 0
      have q21_3 := Lr0_20.frozen 1
      have q21_lt := Lr0_20.lt
      go_wp2
      (try simp only [Exit.inBlock, Exit.then])
      exact end_put rfl Lr0_20 HB18.out (by omega) (Hv_19.out).is.2.2 (Hv_19.out).is.1 HRR.out rfl rfl
  · have HVa := Lib.hid hva
    have HZ := Lib.hid (show r = (0, 30) by rw [HR.out]; exact A1_bad hva)
    clear hva HR
    go_enter Tryz.func34, Tryz.ntmps34
    go_wp2_with fail
    refine (Right_bad Ha.out HVa.out).mono ?_
    rintro e w22 ⟨hb22, rfl⟩
    have B23 := Lib.hid hb22
    have z23 := B23.out.size
    have HB24 := Lib.hid (B0.out.trans (B23.out.mono B0.out.size))
    clear hb22
    have Lr0_25 := LB.step Lr0 B23.out
    have q26_0 := Lr0_25.cell0
    have q26_1 := Lr0_25.cell1
    have q26_2 := Lr0_25.frozen 0
    have q26_3 := Lr0_25.frozen 1
    have q26_lt := Lr0_25.lt
    go_wp2
    (try simp only [Exit.inBlock, Exit.then])
    exact end_zero rfl Lr0_25 HB24.out (by omega) HZ.out rfl rfl
end Go.Proofs.YtnbanlmkoljghaaGreatDoor

/- Rows of bytes of a call's own; make([]byte, n); string(b). -/
namespace Go.Proofs.YtnbanlmkoljghaaGreatDoor
open Go Go.RowKit Dig

theorem byte_info : (Tryz.prog.info? 5).map (fun i => (i.zero, i.size, i.bytes)) = some (some (.int .u8 0), 1, 1) := by kernel_rfl
/-- v is a slice of bytes of the call's own blocks from base on (or nil), which reads as l. -/
def OwnBV (w : World) (base : Nat) (v : Value) (l : List UInt8) : Prop := w.ownsRow base 5 1 v l.length (Lib.byteCells l)
/-- Block g is a row of bytes of its own, whose first places read as l. -/
def OwnB (w : World) (g : Nat) (l : List UInt8) : Prop := ∃ tail : List Value, w.heap[g]? = some (.cells (Lib.byteCells l ++ tail).toArray 5 (0, 0))
section
variable {w w' : World} {base g : Nat} {v : Value} {l : List UInt8}
theorem OwnB.lt (h : OwnB w g l) : g < w.heap.size := by
  obtain ⟨tail, h⟩ := h
  rcases Nat.lt_or_ge g w.heap.size with hlt | hge
  · exact hlt
  · rw [Array.getElem?_eq_none hge] at h; cases h
theorem bytes_at (l : List UInt8) (j : Nat) (hj : j < l.length) : (Lib.byteCells l)[j]? = some (.int .u8 (l[j].toNat : Int)) := by
  simp [Lib.byteCells, hj]
theorem OwnB.cell (h : OwnB w g l) (j : Nat) (hj : j < l.length) : w.cell? ⟨g, j, none⟩ = some (.int .u8 (l[j].toNat : Int)) := by
  obtain ⟨tail, h⟩ := h
  have h2 : (Lib.byteCells l ++ tail)[j]? = some (.int .u8 (l[j].toNat : Int)) := by
    rw [List.getElem?_append_left (by rw [Lib.byteCells_length]; exact hj), bytes_at l j hj]
  simp only [World.cell?, h]
  simpa using h2
theorem OwnB.frozen (h : OwnB w g l) (j : Nat) : w.frozen? ⟨g, j, none⟩ = false := by
  obtain ⟨tail, h⟩ := h
  simp [World.frozen?, h]
theorem OwnB.of_block (h : OwnB w g l) (hb : w'.heap[g]? = w.heap[g]?) : OwnB w' g l := by
  obtain ⟨tail, h⟩ := h
  exact ⟨tail, hb.trans h⟩
theorem OwnB.alloc (h : OwnB w g l) (o : Obj) : OwnB (w.alloc o) g l := h.of_block (Below.heap_alloc w o g h.lt)
theorem OwnB.step (h : OwnB w g l) (hb : Below w.heap.size w w') : OwnB w' g l := h.of_block (hb.block g h.lt)
theorem OwnB.far (h : OwnB w g l) {p : Addr} (hp : g ≠ p.block) (u : Value) : OwnB (w.setCell p u) g l := h.of_block (Below.heap_setCell w p u g hp)
theorem OwnB.set (h : OwnB w g l) (j : Nat) (x : UInt8) (hj : j < l.length) : OwnB (w.setCell ⟨g, j, none⟩ (.int .u8 (x.toNat : Int))) g (l.set j x) := by
  obtain ⟨tail, h⟩ := h
  refine ⟨tail, ?_⟩
  have h2 : (Lib.byteCells l ++ tail).set j (.int .u8 (x.toNat : Int)) = Lib.byteCells (l.set j x) ++ tail := by
    rw [List.set_append_left _ _ (by rw [Lib.byteCells_length]; exact hj)]
    simp [Lib.byteCells, List.map_set]
  simp only [World.setCell, Array.getElem?_modify, h, if_true, Option.map_some, List.setIfInBounds_toArray, h2]
  rfl
theorem OwnBV.form (h : OwnBV w base v l) : (v = .slice none 0 0 ∧ l = []) ∨ ∃ g cap, v = .slice (some ⟨g, 0, none⟩) l.length cap ∧ l.length ≤ cap ∧ cap ≤ 9223372036854775807 ∧ base ≤ g ∧ OwnB w g l := by
  obtain ⟨_, h | ⟨g, cap, cur, hv, hb, hh, hn, hc, hs, ht⟩⟩ := h
  · exact .inl ⟨h.1, List.eq_nil_of_length_eq_zero h.2⟩
  · refine .inr ⟨g, cap, hv, hn, hc, hb, cur.toList.drop l.length, ?_⟩
    rw [hh, ← ht, Nat.mul_one, List.take_append_drop, Array.toArray_toList]
theorem OwnBV.nil (w : World) (base : Nat) : OwnBV w base (.slice none 0 0) [] := World.ownsRow_nil _ _ _ _
theorem OwnBV.alloc (h : OwnBV w base v l) (o : Obj) : OwnBV (w.alloc o) base v l := World.ownsRow.alloc h o
theorem OwnBV.step (h : OwnBV w base v l) (hb : Below w.heap.size w w') : OwnBV w' base v l := by
  obtain ⟨h1, h | ⟨g, cap, cur, hv, hg, hh, r⟩⟩ := h
  · exact ⟨h1, .inl h⟩
  · refine ⟨h1, .inr ⟨g, cap, cur, hv, hg, ?_, r⟩⟩
    rw [hb.block g (by
      rcases Nat.lt_or_ge g w.heap.size with hlt | hge
      · exact hlt
      · rw [Array.getElem?_eq_none hge] at hh; cases hh)]
    exact hh
/-- A byte is appended to a row of its own. -/
theorem push_byte {x : UInt8} {n : Int} (hn : n = (x.toNat : Int)) (h : w'.ownsRow base 5 1 v (l.length + 1) (Lib.byteCells l ++ [.int .u8 n])) : OwnBV w' base v (l ++ [x]) := by
  subst hn
  rw [OwnBV, List.length_append, Lib.byteCells_append]
  exact h
/-- The last byte is cut off. -/
theorem pop_byte {x : UInt8} {cap n : Nat} (h : OwnBV w base (.slice (some ⟨g, 0, none⟩) n cap) (l ++ [x])) : OwnBV w base (.slice (some ⟨g, 0, none⟩) l.length cap) l := by
  have hn : n = l.length + 1 := by
    rcases h.form with ⟨h, _⟩ | ⟨g', cap', h, _⟩
    · cases h
    · injection h with _ h _; rw [h, List.length_append]; rfl
  subst hn
  rw [OwnBV, List.length_append, Lib.byteCells_append] at h
  exact ownsRow_pop (by rw [Lib.byteCells_length]; omega) h
end
/-- A new row of n zero bytes. -/
def zeroBytes (n : Nat) : Obj := .cells (Lib.byteCells (List.replicate n 0)).toArray 5 (0, 0)
theorem ownB_new (w : World) (n : Nat) : OwnB (w.alloc (zeroBytes n)) w.heap.size (List.replicate n 0) := ⟨[], by rw [List.append_nil]; exact heap_alloc_new w _⟩
theorem mk_bytes (n : Nat) (hn : n ≤ 17592186044416) (w : World) : (Instr.makeSlice 54 (.int .i64 (n : Int)) (.int .i64 (n : Int))).run Tryz.prog w =
    .ok (.slice (some ⟨w.heap.size, 0, none⟩) n n) (w.alloc (zeroBytes n)) := by
  obtain ⟨i, hi, hz, hs, hb⟩ := info_parts byte_info
  have h := run_make (P := Tryz.prog) w 54 5 i (.int .u8 0) Tryz.underlying54 hi hz .i64 .i64 n n (by omega) (by omega) (by rw [hb]; omega) (by omega)
  rw [h, hs]
  show _ = Result.ok _ (w.alloc (.cells _ _ _))
  have e : madeCells #[Value.int .u8 0] n = (Lib.byteCells (List.replicate n 0)).toArray := by
    have h := toList_madeCells_one (.int .u8 0) n
    rw [← Array.toArray_toList (xs := madeCells #[Value.int .u8 0] n), h]
    simp [Lib.byteCells]
  rw [← e]
  simp [Value.cells]
/-- string(b) of a whole row. -/
theorem conv_bytes {w : World} {g n cap : Nat} {l : List UInt8} (h : OwnB w g l) (hn : n = l.length) : (convert 54 9 (.slice (some ⟨g, 0, none⟩) n cap)).run Tryz.prog w = .ok (.string ⟨l.toArray⟩) w := by
  have h1 := run_convert_bytes_arg (P := Tryz.prog) w 54 5 Tryz.underlying54 Tryz.underlying5 g 0 n cap (l.map fun c => (c.toNat : Int)) (by simp [hn]) (fun i hi => by
    rw [Nat.zero_add, h.cell i (by omega)]
    simp [List.getD, show i < l.length by omega]) 9 Tryz.underlying9
  rw [show strOfNums (l.map fun c => (c.toNat : Int)) = ⟨l.toArray⟩ by simp [strOfNums, Function.comp_def]] at h1
  exact h1
end Go.Proofs.YtnbanlmkoljghaaGreatDoor
