/- The reference's made: a Long of digits, without the highest zeros. -/
import Derived.Test.YtnbanlmkoljghaaGreatDoorOfN
import Derived.Test.YtnbanlmkoljghaaGreatDoorTxt
import Derived.Deep.RegionHeld3
import Derived.Deep.RegionLaw
import Derived.Deep.AppendLies
namespace Go.Proofs.YtnbanlmkoljghaaGreatDoor
open Go Go.RowKit Dig

theorem sgn_made (neg : Bool) (n : Nat) : (neg && decide (0 < (dig n).length)) = decide (sgn neg n < 0) := by
  rcases Nat.eq_zero_or_pos n with h0 | h0
  · subst h0; rw [dig_zero]; cases neg <;> simp [sgn]
  · have := dig_len_pos (by omega : n ≠ 0)
    cases neg <;> simp [sgn] <;> omega
theorem sgn_nat (neg : Bool) (n : Nat) : (sgn neg n).natAbs = n := by unfold sgn; cases neg <;> simp

set_option maxRecDepth 100000 in
set_option maxHeartbeats 4000000 in
theorem made_any (w : World) (neg : Bool) (v : Value) (ds : List Nat) (h : RN w w.heap.size v ds) (hs : Small ds) (hl : ds.length ≤ 1000000) :
    Calls Tryz.prog 73 #[.bool neg, v] w fun e w' => Below w.heap.size w w' ∧ RetV w' (sgn neg (val ds)) e := by
  obtain ⟨i0, hi, hz0, hz1, hz2⟩ := info_parts info_int
  obtain ⟨A, c, rfl, hc, hc', hA⟩ := h.cell
  have HR := Lib.hid h
  have HS := Lib.hid hs
  replace hA := Lib.hid hA
  clear h hs
  have L0 := LB.new w (.bool false) (.slice none 0 0)
  have HB0 := Lib.hid ((Below.refl w.heap.size w).alloc (Nat.le_refl _) (.cells #[.bool false, .slice none 0 0] 24))
  go_enter Tryz.func73, Tryz.ntmps73
  go_wp2
  generalize hW : (w.alloc (.cells #[.bool false, .slice none 0 0] 24)) = w1 at *
  have hsz1 : w.heap.size < w1.heap.size := L0.lt
  have HSZ1 := Lib.hid (show w1.heap.size = w.heap.size + 1 by rw [← hW]; simp)
  clear hW
  go_loop [5] (fun nv => ∃ n : Nat, n ≤ ds.length ∧ nv = .int .i64 n ∧ Hid (val (ds.take n) = val ds)) (fun nv => (intOf nv).toNat)
  case atStart => exact ⟨_, Nat.le_refl _, rfl, Lib.hid (by rw [List.take_length])⟩
  case round =>
    obtain ⟨n, hn, rfl, hv⟩ := hrel
    by_cases hgo : 0 < n ∧ ds.getD (n - 1) 0 = 0
    · obtain ⟨k, rfl⟩ : ∃ k, n = k + 1 := ⟨n - 1, by omega⟩
      obtain ⟨g, off, rfl, hg, hx⟩ := hA.out (by omega)
      have hk : k < ds.length := by omega
      have hz : ds[k] = 0 := by have := hgo.2; rwa [Nat.add_sub_cancel, getD_get hk] at this
      have h1 := (HB0.out.cell (p := ⟨g, off + k, none⟩) hg).trans (hx k hk)
      rw [hz] at h1
      have HV := Lib.hid (trim_go hk hv.out hz)
      clear hx hgo hv hz
      go_wp2
      go_round
      case rel => exact ⟨k, by omega, by go_num, HV⟩
      case measure => simp [intOf]
    · have hz : n = 0 ∨ ∃ h : n - 1 < ds.length, ds[n - 1] ≠ 0 := by
        rcases Nat.eq_zero_or_pos n with h0 | h0
        · exact .inl h0
        · refine .inr ⟨by omega, fun e => hgo ⟨h0, ?_⟩⟩
          rw [getD_get (show n - 1 < ds.length by omega)]; exact e
      have HD := Lib.hid (trim_stop HS.out hn hv.out hz)
      have HQ := Lib.hid (sgn_made neg (val ds))
      clear hgo hv
      rcases Nat.eq_zero_or_pos n with hn0 | hn0
      · subst hn0
        clear hz
        cases neg with
        | false =>
          go_wp2
          have LO : LB (w1.alloc (.cells #[.bool false, .slice none 0 0] 24)) w1.heap.size (.bool false) (.slice none 0 0) := LB.new _ _ _
          have LR0 := L0.alloc (.cells #[.bool false, .slice none 0 0] 24)
          have HB2 := HB0.out.alloc HB0.out.size (.cells #[.bool false, .slice none 0 0] 24)
          have HS2 := Lib.hid (show w1.heap.size + 1 ≤ (w1.alloc (.cells #[.bool false, .slice none 0 0] 24)).heap.size by simp)
          clear L0
          go_loopw [7] (fun iv wr => ∃ (i : Nat) (v : Value), i ≤ 0 ∧ iv = .int .i64 i ∧ LB wr w.heap.size (.bool false) (.slice none 0 0) ∧ LB wr w1.heap.size (.bool false) v ∧ Hid (OwnV wr (w1.heap.size + 1) v (ni (ds.take i))) ∧ Hid (w1.heap.size + 1 ≤ wr.heap.size) ∧ Below w.heap.size w wr) (fun iv _ => 0 - (intOf iv).toNat)
          case atStart => exact ⟨0, _, by omega, rfl, LR0, LO, Lib.hid (OwnV.nil _ _), HS2, HB2⟩
          case round =>
            clear LO LR0 HB2 HS2
            obtain ⟨i, v, hin, rfl, L0, LO, ho, hszr, hbw⟩ := hrel
            have HB := Lib.hid hbw
            by_cases hlt : i < 0
            · exact absurd hlt (Nat.not_lt_zero _)
            · obtain rfl : i = 0 := by omega
              have HRI := Lib.hid ho.out.ri
              have hri := ho.out.ri
              obtain ⟨A', c', rfl, -⟩ := hri
              have HDD := Lib.hid (show ni (dig (sgn false (val ds)).natAbs) = ni (ds.take 0) by rw [sgn_nat, HD.out])
              have qa0 := LO.cell0
              have qa1 := LO.cell1
              have qb0 := L0.cell0
              have qb1 := L0.cell1
              have qb2 := L0.frozen 0
              have qb3 := L0.frozen 1
              have hlt1 := LO.lt
              have hlt0 := L0.lt
              clear hbw hlt
              go_wp2
              (try simp only [Exit.inBlock, Exit.then])
              exact end_one rfl L0 HB.out (Nat.le_refl _) (by rw [HDD.out]; exact HRI.out) (by rw [← HQ.out, ← HD.out]; (simp <;> omega)) rfl
        | true =>
          go_wp2
          have LO : LB (w1.alloc (.cells #[.bool false, .slice none 0 0] 24)) w1.heap.size (.bool false) (.slice none 0 0) := LB.new _ _ _
          have LR0 := L0.alloc (.cells #[.bool false, .slice none 0 0] 24)
          have HB2 := HB0.out.alloc HB0.out.size (.cells #[.bool false, .slice none 0 0] 24)
          have HS2 := Lib.hid (show w1.heap.size + 1 ≤ (w1.alloc (.cells #[.bool false, .slice none 0 0] 24)).heap.size by simp)
          clear L0
          go_loopw [7] (fun iv wr => ∃ (i : Nat) (v : Value), i ≤ 0 ∧ iv = .int .i64 i ∧ LB wr w.heap.size (.bool false) (.slice none 0 0) ∧ LB wr w1.heap.size (.bool false) v ∧ Hid (OwnV wr (w1.heap.size + 1) v (ni (ds.take i))) ∧ Hid (w1.heap.size + 1 ≤ wr.heap.size) ∧ Below w.heap.size w wr) (fun iv _ => 0 - (intOf iv).toNat)
          case atStart => exact ⟨0, _, by omega, rfl, LR0, LO, Lib.hid (OwnV.nil _ _), HS2, HB2⟩
          case round =>
            clear LO LR0 HB2 HS2
            obtain ⟨i, v, hin, rfl, L0, LO, ho, hszr, hbw⟩ := hrel
            have HB := Lib.hid hbw
            by_cases hlt : i < 0
            · exact absurd hlt (Nat.not_lt_zero _)
            · obtain rfl : i = 0 := by omega
              have HRI := Lib.hid ho.out.ri
              have hri := ho.out.ri
              obtain ⟨A', c', rfl, -⟩ := hri
              have HDD := Lib.hid (show ni (dig (sgn true (val ds)).natAbs) = ni (ds.take 0) by rw [sgn_nat, HD.out])
              have qa0 := LO.cell0
              have qa1 := LO.cell1
              have qb0 := L0.cell0
              have qb1 := L0.cell1
              have qb2 := L0.frozen 0
              have qb3 := L0.frozen 1
              have hlt1 := LO.lt
              have hlt0 := L0.lt
              clear hbw hlt
              go_wp2
              (try simp only [Exit.inBlock, Exit.then])
              exact end_one rfl L0 HB.out (Nat.le_refl _) (by rw [HDD.out]; exact HRI.out) (by rw [← HQ.out, ← HD.out]; (simp <;> omega)) rfl
      · obtain ⟨k, rfl⟩ : ∃ k, n = k + 1 := ⟨n - 1, by omega⟩
        have hk : k < ds.length := by omega
        have hne : ds[k] ≠ 0 := by
          rcases hz with h | ⟨h, h'⟩
          · omega
          · exact h'
        obtain ⟨g, off, rfl, hg, hx⟩ := hA.out (by omega)
        have h1 := (HB0.out.cell (p := ⟨g, off + k, none⟩) hg).trans (hx k hk)
        have hnz : ((ds[k] : Int) == 0) = false := by rw [beq_eq_false_iff_ne]; omega
        have HX0 := Lib.hid hx
        clear hx hz hne hA
        cases neg with
        | false =>
          go_wp2
          have LO : LB (w1.alloc (.cells #[.bool false, .slice none 0 0] 24)) w1.heap.size (.bool false) (.slice none 0 0) := LB.new _ _ _
          have LR0 := L0.alloc (.cells #[.bool false, .slice none 0 0] 24)
          have HB2 := HB0.out.alloc HB0.out.size (.cells #[.bool false, .slice none 0 0] 24)
          have HS2 := Lib.hid (show w1.heap.size + 1 ≤ (w1.alloc (.cells #[.bool false, .slice none 0 0] 24)).heap.size by simp)
          clear L0
          go_loopw [7] (fun iv wr => ∃ (i : Nat) (v : Value), i ≤ (k + 1) ∧ iv = .int .i64 i ∧ LB wr w.heap.size (.bool false) (.slice none 0 0) ∧ LB wr w1.heap.size (.bool false) v ∧ Hid (OwnV wr (w1.heap.size + 1) v (ni (ds.take i))) ∧ Hid (w1.heap.size + 1 ≤ wr.heap.size) ∧ Below w.heap.size w wr) (fun iv _ => (k + 1) - (intOf iv).toNat)
          case atStart => exact ⟨0, _, by omega, rfl, LR0, LO, Lib.hid (OwnV.nil _ _), HS2, HB2⟩
          case round =>
            clear LO LR0 HB2 HS2
            obtain ⟨i, v, hin, rfl, L0, LO, ho, hszr, hbw⟩ := hrel
            have HB := Lib.hid hbw
            by_cases hlt : i < (k + 1)
            · have hid : i < ds.length := by omega
              have hini : (i : Int) < (((k + 1) : Nat) : Int) := by omega
              have hini2 : (i : Int) < ds.length := by omega
              have hi00 : (0 : Int) ≤ (i : Int) := by omega
              have hc1 := LO.cell1
              have hf1 := LO.frozen 1
              have hlt1 := LO.lt
              obtain ⟨d, hd⟩ : ∃ d, d = ds[i] := ⟨_, rfl⟩
              have hx1 := (hbw.cell (p := ⟨g, off + i, none⟩) hg).trans (HX0.out i hid)
              rw [← hd] at hx1
              have hgr : g < wr.heap.size := by have := hbw.size; omega
              have HTK := Lib.hid (show ni (ds.take (i + 1)) = ni (ds.take i) ++ [(d : Int)] by rw [hd, List.take_succ_eq_append_getElem hid, ni_append]; rfl)
              have hlen : (ni (ds.take i)).length = i := by rw [ni_length]; simp; omega
              have HLEN := Lib.hid hlen
              have hga : v.ownBlock ≠ some g := fun e => by have := (World.ownsRow.lt ho.out g e).1; omega
              have hgo : v.ownBlock ≠ some w1.heap.size := fun e => by have := (World.ownsRow.lt ho.out w1.heap.size e).1; omega
              have hgr0 : v.ownBlock ≠ some w.heap.size := fun e => by have := (World.ownsRow.lt ho.out w.heap.size e).1; omega
              have HAL : Hid (∀ o : Obj, (wr.alloc o).drew.cell? ⟨g, off + i, none⟩ = some (.int .i64 (d : Int))) := Lib.hid (fun o => (World.cell?_of_block (w := wr) (w' := (wr.alloc o).drew) (a := ⟨g, off + i, none⟩) (Below.heap_alloc wr o _ hgr)).trans hx1)
              clear hbw hd hlen
              go_wp2
              go_region_law (first
                  | (refine step_append_lies _ (by rfl) _ _ _ (by rfl) (w1.heap.size + 1) 3 i0 _ 1 8 Tryz.underlying22 hi hz0 hz1 hz2 rfl (by omega) v (ni (ds.take i)).length ((ni (ds.take i)).map (Value.int .i64)) (by rfl) ((OwnV.alloc ho.out _).drew) ⟨wr.heap.size, 0, none⟩ 1 1 [.int .i64 (d : Int)] (by rfl) (by rfl) (World.news_of_block (cs := #[.int .i64 (d : Int)]) (t := 3) (fr := (0, 0)) (heap_alloc_new wr _)) (by simp [Value.oneCell']) (by omega) (by have := HLEN.out; unfold maxLen; omega) (by have := HLEN.out; omega) (by have := hszr.out; simp; omega) (wr.heap.size + 1) (by simp) ?_; intro gg cap w4 hown4 hgrow hat hlt4; have M0 := LB.grown (LB.drew (LB.alloc L0 _)) hgrow hgr0; have M1 := LB.grown (LB.drew (LB.alloc LO _)) hgrow hgo; have qm1 := M1.cell1; have qm2 := M1.frozen 1; have qx4 : w4.cell? ⟨g, off + i, none⟩ = some (.int .i64 (d : Int)) := Eq.trans (hgrow.cell_far _ (by simp; omega) (Ne.symm hga)) (HAL.out _)))
              all_goals
                have hv' : OwnV w4 (w1.heap.size + 1) (.slice (some ⟨gg, 0, none⟩) ((ni (ds.take i)).length + 1) cap) (ni (ds.take (i + 1))) := by
                  rw [HTK.out]
                  unfold OwnV
                  rw [List.length_append, List.map_append]
                  exact hown4
                have HV := Lib.hid (hv'.setBelow (p := ⟨w1.heap.size, 1, none⟩) (by simp) (.slice (some ⟨gg, 0, none⟩) ((ni (ds.take i)).length + 1) cap))
                have N0 := M0.far (p := ⟨w1.heap.size, 1, none⟩) (by simp; omega) (.slice (some ⟨gg, 0, none⟩) ((ni (ds.take i)).length + 1) cap)
                have N1 := M1.set1 (.slice (some ⟨gg, 0, none⟩) ((ni (ds.take i)).length + 1) cap)
                have HB4 := Lib.hid ((((HB.out.alloc HB.out.size (.cells #[.int .i64 (d : Int)] 3)).drew).grown hgrow (by have := HB.out.size; simp; omega) (fun g' e => by have := (World.ownsRow.lt ho.out g' e).1; omega)).setCell (p := ⟨w1.heap.size, 1, none⟩) (by simp; omega) (.slice (some ⟨gg, 0, none⟩) ((ni (ds.take i)).length + 1) cap))
                have HS4 := Lib.hid (show w1.heap.size + 1 ≤ (w4.setCell ⟨w1.heap.size, 1, none⟩ (.slice (some ⟨gg, 0, none⟩) ((ni (ds.take i)).length + 1) cap)).heap.size by have h1 := hgrow.size; have h2 := hszr.out; simp [World.setCell] at h1 ⊢; omega)
                clear hown4 hgrow hat hlt4 M0 M1 qm1 qm2 hv'
                go_wp2
                go_roundw
                case rel => exact ⟨i + 1, _, by omega, by go_num, N0, N1, HV, HS4, HB4.out⟩
                case measure => simp [intOf]; omega
            · obtain rfl : i = (k + 1) := by omega
              have HRI := Lib.hid ho.out.ri
              have hri := ho.out.ri
              obtain ⟨A', c', rfl, -⟩ := hri
              have HDD := Lib.hid (show ni (dig (sgn false (val ds)).natAbs) = ni (ds.take (k + 1)) by rw [sgn_nat, HD.out])
              have qa0 := LO.cell0
              have qa1 := LO.cell1
              have qb0 := L0.cell0
              have qb1 := L0.cell1
              have qb2 := L0.frozen 0
              have qb3 := L0.frozen 1
              have hlt1 := LO.lt
              have hlt0 := L0.lt
              clear hbw hlt
              go_wp2
              (try simp only [Exit.inBlock, Exit.then])
              exact end_one rfl L0 HB.out (Nat.le_refl _) (by rw [HDD.out]; exact HRI.out) (by rw [← HQ.out, ← HD.out]; (simp <;> omega)) rfl
        | true =>
          go_wp2
          have LO : LB (w1.alloc (.cells #[.bool true, .slice none 0 0] 24)) w1.heap.size (.bool true) (.slice none 0 0) := LB.new _ _ _
          have LR0 := L0.alloc (.cells #[.bool true, .slice none 0 0] 24)
          have HB2 := HB0.out.alloc HB0.out.size (.cells #[.bool true, .slice none 0 0] 24)
          have HS2 := Lib.hid (show w1.heap.size + 1 ≤ (w1.alloc (.cells #[.bool true, .slice none 0 0] 24)).heap.size by simp)
          clear L0
          go_loopw [7] (fun iv wr => ∃ (i : Nat) (v : Value), i ≤ (k + 1) ∧ iv = .int .i64 i ∧ LB wr w.heap.size (.bool false) (.slice none 0 0) ∧ LB wr w1.heap.size (.bool true) v ∧ Hid (OwnV wr (w1.heap.size + 1) v (ni (ds.take i))) ∧ Hid (w1.heap.size + 1 ≤ wr.heap.size) ∧ Below w.heap.size w wr) (fun iv _ => (k + 1) - (intOf iv).toNat)
          case atStart => exact ⟨0, _, by omega, rfl, LR0, LO, Lib.hid (OwnV.nil _ _), HS2, HB2⟩
          case round =>
            clear LO LR0 HB2 HS2
            obtain ⟨i, v, hin, rfl, L0, LO, ho, hszr, hbw⟩ := hrel
            have HB := Lib.hid hbw
            by_cases hlt : i < (k + 1)
            · have hid : i < ds.length := by omega
              have hini : (i : Int) < (((k + 1) : Nat) : Int) := by omega
              have hini2 : (i : Int) < ds.length := by omega
              have hi00 : (0 : Int) ≤ (i : Int) := by omega
              have hc1 := LO.cell1
              have hf1 := LO.frozen 1
              have hlt1 := LO.lt
              obtain ⟨d, hd⟩ : ∃ d, d = ds[i] := ⟨_, rfl⟩
              have hx1 := (hbw.cell (p := ⟨g, off + i, none⟩) hg).trans (HX0.out i hid)
              rw [← hd] at hx1
              have hgr : g < wr.heap.size := by have := hbw.size; omega
              have HTK := Lib.hid (show ni (ds.take (i + 1)) = ni (ds.take i) ++ [(d : Int)] by rw [hd, List.take_succ_eq_append_getElem hid, ni_append]; rfl)
              have hlen : (ni (ds.take i)).length = i := by rw [ni_length]; simp; omega
              have HLEN := Lib.hid hlen
              have hga : v.ownBlock ≠ some g := fun e => by have := (World.ownsRow.lt ho.out g e).1; omega
              have hgo : v.ownBlock ≠ some w1.heap.size := fun e => by have := (World.ownsRow.lt ho.out w1.heap.size e).1; omega
              have hgr0 : v.ownBlock ≠ some w.heap.size := fun e => by have := (World.ownsRow.lt ho.out w.heap.size e).1; omega
              have HAL : Hid (∀ o : Obj, (wr.alloc o).drew.cell? ⟨g, off + i, none⟩ = some (.int .i64 (d : Int))) := Lib.hid (fun o => (World.cell?_of_block (w := wr) (w' := (wr.alloc o).drew) (a := ⟨g, off + i, none⟩) (Below.heap_alloc wr o _ hgr)).trans hx1)
              clear hbw hd hlen
              go_wp2
              go_region_law (first
                  | (refine step_append_lies _ (by rfl) _ _ _ (by rfl) (w1.heap.size + 1) 3 i0 _ 1 8 Tryz.underlying22 hi hz0 hz1 hz2 rfl (by omega) v (ni (ds.take i)).length ((ni (ds.take i)).map (Value.int .i64)) (by rfl) ((OwnV.alloc ho.out _).drew) ⟨wr.heap.size, 0, none⟩ 1 1 [.int .i64 (d : Int)] (by rfl) (by rfl) (World.news_of_block (cs := #[.int .i64 (d : Int)]) (t := 3) (fr := (0, 0)) (heap_alloc_new wr _)) (by simp [Value.oneCell']) (by omega) (by have := HLEN.out; unfold maxLen; omega) (by have := HLEN.out; omega) (by have := hszr.out; simp; omega) (wr.heap.size + 1) (by simp) ?_; intro gg cap w4 hown4 hgrow hat hlt4; have M0 := LB.grown (LB.drew (LB.alloc L0 _)) hgrow hgr0; have M1 := LB.grown (LB.drew (LB.alloc LO _)) hgrow hgo; have qm1 := M1.cell1; have qm2 := M1.frozen 1; have qx4 : w4.cell? ⟨g, off + i, none⟩ = some (.int .i64 (d : Int)) := Eq.trans (hgrow.cell_far _ (by simp; omega) (Ne.symm hga)) (HAL.out _)))
              all_goals
                have hv' : OwnV w4 (w1.heap.size + 1) (.slice (some ⟨gg, 0, none⟩) ((ni (ds.take i)).length + 1) cap) (ni (ds.take (i + 1))) := by
                  rw [HTK.out]
                  unfold OwnV
                  rw [List.length_append, List.map_append]
                  exact hown4
                have HV := Lib.hid (hv'.setBelow (p := ⟨w1.heap.size, 1, none⟩) (by simp) (.slice (some ⟨gg, 0, none⟩) ((ni (ds.take i)).length + 1) cap))
                have N0 := M0.far (p := ⟨w1.heap.size, 1, none⟩) (by simp; omega) (.slice (some ⟨gg, 0, none⟩) ((ni (ds.take i)).length + 1) cap)
                have N1 := M1.set1 (.slice (some ⟨gg, 0, none⟩) ((ni (ds.take i)).length + 1) cap)
                have HB4 := Lib.hid ((((HB.out.alloc HB.out.size (.cells #[.int .i64 (d : Int)] 3)).drew).grown hgrow (by have := HB.out.size; simp; omega) (fun g' e => by have := (World.ownsRow.lt ho.out g' e).1; omega)).setCell (p := ⟨w1.heap.size, 1, none⟩) (by simp; omega) (.slice (some ⟨gg, 0, none⟩) ((ni (ds.take i)).length + 1) cap))
                have HS4 := Lib.hid (show w1.heap.size + 1 ≤ (w4.setCell ⟨w1.heap.size, 1, none⟩ (.slice (some ⟨gg, 0, none⟩) ((ni (ds.take i)).length + 1) cap)).heap.size by have h1 := hgrow.size; have h2 := hszr.out; simp [World.setCell] at h1 ⊢; omega)
                clear hown4 hgrow hat hlt4 M0 M1 qm1 qm2 hv'
                go_wp2
                go_roundw
                case rel => exact ⟨i + 1, _, by omega, by go_num, N0, N1, HV, HS4, HB4.out⟩
                case measure => simp [intOf]; omega
            · obtain rfl : i = (k + 1) := by omega
              have HRI := Lib.hid ho.out.ri
              have hri := ho.out.ri
              obtain ⟨A', c', rfl, -⟩ := hri
              have HDD := Lib.hid (show ni (dig (sgn true (val ds)).natAbs) = ni (ds.take (k + 1)) by rw [sgn_nat, HD.out])
              have qa0 := LO.cell0
              have qa1 := LO.cell1
              have qb0 := L0.cell0
              have qb1 := L0.cell1
              have qb2 := L0.frozen 0
              have qb3 := L0.frozen 1
              have hlt1 := LO.lt
              have hlt0 := L0.lt
              clear hbw hlt
              go_wp2
              (try simp only [Exit.inBlock, Exit.then])
              exact end_one rfl L0 HB.out (Nat.le_refl _) (by rw [HDD.out]; exact HRI.out) (by rw [← HQ.out, ← HD.out]; (simp <;> omega)) rfl
end Go.Proofs.YtnbanlmkoljghaaGreatDoor
