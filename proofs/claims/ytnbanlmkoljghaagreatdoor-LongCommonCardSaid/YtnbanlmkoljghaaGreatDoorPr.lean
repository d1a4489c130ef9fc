/- Texts put together: Drafts of Longs: Draft.Long, Draft.Short of the reference; size of the law package (written by gen_draft.py). The law package's own: a row of at most 60 places, of its own. The law package's pairs of a Two (written by gen_pairs.py). All four pairs; divisions of Longs that are not valid; the sign of a rest. All four pairs, each list of at most 60 entries; own gives the same list back. -/
import Derived.Test.YtnbanlmkoljghaaGreatDoorOps
import Derived.Test.YtnbanlmkoljghaaGreatDoorLow
import Derived.Test.YtnbanlmkoljghaaGreatDoorDec
import Derived.Deep.RegionHeld3
/- Drafts of Longs: Draft.Long, Draft.Short of the reference; size of the law package (written by gen_draft.py). -/
namespace Go.Proofs.YtnbanlmkoljghaaGreatDoor
open Go Go.RowKit Dig

/-- The slice value v reads as the words l (of 32 bits), below block B. -/
def RW (w : World) (B : Nat) (v : Value) (l : List Nat) : Prop :=
  ∃ A c, v = .slice A l.length c ∧ l.length ≤ c ∧ c ≤ 9223372036854775807 ∧ (∀ d ∈ l, d < 4294967296) ∧ (0 < l.length → ∃ g off, A = some ⟨g, off, none⟩ ∧ g < B ∧ ∀ j (h : j < l.length), w.cell? ⟨g, off + j, none⟩ = some (.int .u32 (l[j] : Nat)))
theorem RW.step {w w' : World} {v : Value} {l : List Nat} (h : RW w w.heap.size v l) (hb : Below w.heap.size w w') : RW w' w'.heap.size v l := by
  obtain ⟨A, c, hv, hc, hm, hs, h0⟩ := h
  refine ⟨A, c, hv, hc, hm, hs, fun hn => ?_⟩
  obtain ⟨g, off, hA, hg, hx⟩ := h0 hn
  exact ⟨g, off, hA, Nat.lt_of_lt_of_le hg hb.size, fun j hj => (hb.cell (p := ⟨g, off + j, none⟩) hg).trans (hx j hj)⟩
/-- The digits of a draft. -/
def draftDs (n k : Nat) (ws : List Nat) : List Nat := List.replicate n 0 ++ (ws.take k).map (· % 1000000000)
theorem draft_small (n k : Nat) (ws : List Nat) : Small (draftDs n k ws) := (Small.replicate n).append fun d hd => by
  obtain ⟨x, _, rfl⟩ := List.mem_map.1 hd
  exact Nat.mod_lt _ (by omega)
theorem draft_len (n k : Nat) (ws : List Nat) : (draftDs n k ws).length ≤ n + k := by unfold draftDs; simp; omega
theorem draft_next (n k : Nat) (ws : List Nat) (h : k < ws.length) : draftDs n (k + 1) ws = draftDs n k ws ++ [ws[k] % 1000000000] := by
  unfold draftDs
  rw [List.take_succ_eq_append_getElem h, List.map_append, List.append_assoc]; rfl
theorem draft_fit {neg : Bool} {n k m : Nat} {ws : List Nat} (h : n + k ≤ m) : (dig (sgn neg (val (draftDs n k ws))).natAbs).length ≤ m := by
  rw [sgn_nat, dig_len_le]
  exact Nat.lt_of_lt_of_le (val_lt (draft_small n k ws)) (bp_le (Nat.le_trans (draft_len n k ws) h))
theorem OwnV.make (w : World) (base n : Nat) (hb : base ≤ w.heap.size) (hn : n ≤ 1000000) : OwnV (w.alloc (zerosObj n)) base (.slice (some ⟨w.heap.size, 0, none⟩) n n) (ni (List.replicate n 0)) := by
  refine ⟨by simp [ni], .inr ⟨w.heap.size, n, ((List.replicate n (0 : Int)).map (Value.int .i64)).toArray, ?_, hb, heap_alloc_new w _, by simp [ni], by unfold maxLen; omega, by simp, ?_⟩⟩
  · simp [ni]
  · simp [ni]
theorem mk_low (low : Int) (h0 : 0 ≤ low) (w : World) : (Instr.makeSlice 22 (.int .u8 (low % 8)) (.int .u8 (low % 8))).run Tryz.prog w =
    .ok (.slice (some ⟨w.heap.size, 0, none⟩) (low.toNat % 8) (low.toNat % 8)) (w.alloc (zerosObj (low.toNat % 8))) := by
  obtain ⟨n, hn⟩ : ∃ n : Nat, low.toNat % 8 = n := ⟨_, rfl⟩
  have e : low % 8 = (n : Int) := by omega
  have hle : n < 8 := by omega
  rw [hn, e]
  obtain ⟨i, hi, hz, hs, hb⟩ := info_parts info_int
  have h := run_make (P := Tryz.prog) w 22 3 i (.int .i64 0) Tryz.underlying22 hi hz .u8 .u8 n n (by omega) (by omega) (by rw [hb]; omega) (by omega)
  rw [h, hs]
  show _ = Result.ok _ (w.alloc (.cells _ _ _))
  rw [← cells_madeInt]
  simp [Value.cells]

set_option maxRecDepth 100000 in
set_option maxHeartbeats 2000000 in
theorem Short_any (w : World) (neg : Bool) (low : Int) (wv : Value) (ws : List Nat) (hlow0 : 0 ≤ low) (_ : low ≤ 255) (h : RW w w.heap.size wv ws) :
    Calls Tryz.prog 28 #[.agg #[.bool neg, .int .u8 low, wv]] w fun e w' => Below w.heap.size w w' ∧ RetV w' (sgn neg (val (draftDs 0 3 ws))) e := by
  obtain ⟨i0, hi, hz0, hz1, hz2⟩ := info_parts info_int
  obtain ⟨A, c, rfl, hc, hc', hsm, hA⟩ := h
  have HSM := Lib.hid hsm
  have HA := Lib.hid hA
  clear hsm hA
  have hmk := mk_low low hlow0
  go_enter Tryz.func28, Tryz.ntmps28
  go_wp2
  have HO := Lib.hid (show OwnV ((w.alloc (.cells #[.bool neg, .int .u8 low, .slice A ws.length c] 27)).alloc (.cells #[.bool false, .slice none 0 0] 24)) (w.heap.size + 2) (.slice none 0 0) (ni (draftDs 0 0 ws)) from OwnV.nil _ _)
  obtain ⟨w0, hw0⟩ : ∃ w0, w0 = (w.alloc (.cells #[.bool neg, .int .u8 low, .slice A ws.length c] 27)).alloc (.cells #[.bool false, .slice none 0 0] 24) := ⟨_, rfl⟩
  have hbk : (w.alloc (.cells #[.bool neg, .int .u8 low, .slice A ws.length c] 27)).heap[w.heap.size]? = some (.cells #[.bool neg, .int .u8 low, .slice A ws.length c] 27 (0, 0)) := heap_alloc_new w _
  have hbk2 : w0.heap[w.heap.size]? = some (.cells #[.bool neg, .int .u8 low, .slice A ws.length c] 27 (0, 0)) := by
    rw [hw0]
    exact (Below.heap_alloc _ _ _ (by simp)).trans hbk
  have q0 : w0.cell? ⟨w.heap.size, 0, none⟩ = some (.bool neg) := by simp [World.cell?, hbk2]
  have q2 : w0.cell? ⟨w.heap.size, 2, none⟩ = some (.slice A ws.length c) := by simp [World.cell?, hbk2]
  have L1 : LB w0 (w.heap.size + 1) (.bool false) (.slice none 0 0) := by rw [hw0]; (repeat (first | (refine LB.new' ?_; simp; done) | refine LB.alloc ?_ _))
  have HS := Lib.hid (show w.heap.size + 2 ≤ w0.heap.size by rw [hw0]; simp)
  have hbw0 : Below w.heap.size w w0 := by rw [hw0]; (repeat' (first | exact Below.refl _ _ | refine Below.drew ?_ | refine Below.alloc ?_ (by first | exact Nat.le_refl _ | (simp; done) | (simp; omega)) _))
  rw [← hw0]
  rw [← hw0] at HO
  clear hbk hbk2 hw0
  clear hmk
  go_loopw [3, 4] (fun v iv wr => ∃ (i : Nat), i ≤ 3 ∧ i ≤ ws.length ∧ iv = .int .i64 i ∧ (∃ A' n' c', v = .slice A' n' c') ∧ Hid (OwnV wr (w.heap.size + 2) v (ni (draftDs 0 i ws))) ∧ wr.cell? ⟨w.heap.size, 0, none⟩ = some (.bool neg) ∧ wr.cell? ⟨w.heap.size, 2, none⟩ = some (.slice A ws.length c) ∧ LB wr (w.heap.size + 1) (.bool false) (.slice none 0 0) ∧ Hid (w.heap.size + 2 ≤ wr.heap.size) ∧ Below w.heap.size w wr) (fun _ iv _ => 3 - (intOf iv).toNat)
  case atStart => exact ⟨0, by omega, by omega, rfl, ⟨_, _, _, rfl⟩, HO, q0, q2, L1, HS, hbw0⟩
  case round =>
    clear HO q0 q2 L1 HS hbw0
    obtain ⟨i, hiK, hin, rfl, ⟨A', n', c', rfl⟩, ho, q0, q2, L1, hsz, hbw⟩ := hrel
    have hlt1 := L1.lt
    by_cases hgo : i < ws.length ∧ i < 3
    · obtain ⟨hlt, hltK⟩ := hgo
      obtain ⟨g, off, rfl, hg, hx⟩ := HA.out (by omega)
      obtain ⟨x, hx0⟩ : ∃ x, x = ws[i] := ⟨_, rfl⟩
      have hx1 := (hbw.cell (p := ⟨g, off + i, none⟩) hg).trans (hx i hlt)
      have hxs := HSM.out ws[i] (List.getElem_mem hlt)
      rw [← hx0] at hx1 hxs
      have hx2 : (x : Int) < 4294967296 := by omega
      have HN := Lib.hid (show ni (draftDs 0 (i + 1) ws) = ni (draftDs 0 i ws) ++ [((x % 1000000000 : Nat) : Int)] by rw [draft_next _ _ _ hlt, ni_append, hx0]; rfl)
      have HL := Lib.hid (show (ni (draftDs 0 i ws)).length ≤ 60 by rw [ni_length]; have := draft_len 0 i ws; omega)
      have HB := Lib.hid hbw
      have hown := ho.out.alloc (.cells #[.int .i64 ((x : Int) % 1000000000)] 3)
      have hini : (i : Int) < ws.length := by omega
      have hini2 : (i : Int) < 3 := by omega
      have hi00 : (0 : Int) ≤ i := by omega
      have hx00 : (0 : Int) ≤ x := by omega
      clear hx0 hbw hx
      go_wp2_with (at_builtin; refine wpList_append_own_at _ rfl _ _ 22 rfl (w.heap.size + 2) 3 i0 (.int .i64 0) 1 8 Tryz.underlying22 hi hz0 hz1 hz2 rfl (by decide) (.slice A' n' c') (ni (draftDs 0 i ws)).length ((ni (draftDs 0 i ws)).map (Value.int .i64)) rfl hown ⟨wr.heap.size, 0, none⟩ 1 1 [.int .i64 ((x : Int) % 1000000000)] rfl rfl (cell_one_new _ _ _) (by intro u hu; simp at hu; subst hu; rfl) (by have := HL.out; unfold maxLen; omega) (by have := HL.out; omega) (by have := hsz.out; simp; omega) ?_)
      intro v' w' hown' hgrow hne hblk
      have hv' : OwnV w' (w.heap.size + 2) v' (ni (draftDs 0 (i + 1) ws)) := by
        rw [HN.out]
        unfold OwnV
        rw [List.length_append, List.map_append]
        exact hown'
      have hrow : ∀ b, b < w.heap.size + 2 → (Value.slice A' n' c').ownBlock ≠ some b := fun b hb he => by
        have := (World.ownsRow.lt ho.out b he).1
        omega
      have M1 := (L1.alloc (.cells #[.int .i64 ((x : Int) % 1000000000)] 3)).grown hgrow (hrow _ (by omega))
      have HB2 := Lib.hid ((HB.out.alloc HB.out.size (.cells #[.int .i64 ((x : Int) % 1000000000)] 3)).grown hgrow (by have := HB.out.size; simp; omega) (fun g' he => by have := (World.ownsRow.lt ho.out g' he).1; omega))
      have HS2 := Lib.hid (show w.heap.size + 2 ≤ w'.heap.size by have h1 := hgrow.size; have h2 := hsz.out; simp at h1; omega)
      have r0 : w'.cell? ⟨w.heap.size, 0, none⟩ = some (.bool neg) := (hgrow.cell_far (a := ⟨w.heap.size, 0, none⟩) (by simp; omega) (Ne.symm (hrow w.heap.size (by omega)))).trans ((World.cell?_of_block (Below.heap_alloc wr _ _ (by show w.heap.size < wr.heap.size; omega))).trans q0)
      have r2 : w'.cell? ⟨w.heap.size, 2, none⟩ = some (.slice (some ⟨g, off, none⟩) ws.length c) := (hgrow.cell_far (a := ⟨w.heap.size, 2, none⟩) (by simp; omega) (Ne.symm (hrow w.heap.size (by omega)))).trans ((World.cell?_of_block (Below.heap_alloc wr _ _ (by show w.heap.size < wr.heap.size; omega))).trans q2)
      have HV := Lib.hid hv'
      rcases hv'.form with ⟨_, he⟩ | ⟨g', cap, rfl, _⟩
      · rw [HN.out] at he; simp at he
      · clear hown' hgrow hne hblk hown hv' hrow q0 q2 L1 HB ho
        go_wp2
        go_roundw
        case rel => exact ⟨i + 1, by omega, by omega, by go_num, ⟨_, _, _, rfl⟩, HV, r0, r2, M1, HS2, HB2.out⟩
        case measure => simp [intOf]; omega
    · have HB := Lib.hid hbw
      have HDS := Lib.hid (show draftDs 0 i ws = draftDs 0 3 ws by
        unfold draftDs
        by_cases hlt : i < ws.length
        · rw [show i = 3 by omega]
        · rw [List.take_of_length_le (by omega), List.take_of_length_le (by omega)])
      have HRI := Lib.hid ho.out.ri
      have hgo1 : i < ws.length → ¬ (i : Int) < 3 := fun h h2 => hgo ⟨h, by omega⟩
      have HGO := Lib.hid hgo1
      clear hbw hgo hgo1
      by_cases hlt : i < ws.length
      · have hlti : (i : Int) < ws.length := by omega
        have hltk : decide ((i : Int) < 3) = false := by rw [decide_eq_false_iff_not]; exact HGO.out hlt
        go_wp2_with fail
        refine (made_any _ neg _ (draftDs 0 i ws) HRI.out (draft_small _ _ _) (by have := draft_len 0 i ws; omega)).mono ?_
        rintro e w5 ⟨hb5, v5, rfl, hv5⟩
        rw [HDS.out] at hv5
        obtain ⟨s5, rfl, hs5⟩ := hv5
        obtain ⟨A5, c5, rfl, -⟩ := (show RI _ _ _ _ from hs5)
        have HS5 := Lib.hid hs5
        have L5 := L1.step hb5
        have HB5 := Lib.hid (HB.out.trans (hb5.mono HB.out.size))
        clear hb5 hs5
        have p0 := L5.cell0
        have p1 := L5.cell1
        have p2 := L5.frozen 0
        have p3 := L5.frozen 1
        go_wp2
        (try simp only [Exit.inBlock, Exit.then])
        exact end_one rfl L5 HB5.out (by omega) HS5.out rfl rfl
      · have hlti : ¬ (i : Int) < ws.length := by omega
        go_wp2_with fail
        refine (made_any _ neg _ (draftDs 0 i ws) HRI.out (draft_small _ _ _) (by have := draft_len 0 i ws; omega)).mono ?_
        rintro e w5 ⟨hb5, v5, rfl, hv5⟩
        rw [HDS.out] at hv5
        obtain ⟨s5, rfl, hs5⟩ := hv5
        obtain ⟨A5, c5, rfl, -⟩ := (show RI _ _ _ _ from hs5)
        have HS5 := Lib.hid hs5
        have L5 := L1.step hb5
        have HB5 := Lib.hid (HB.out.trans (hb5.mono HB.out.size))
        clear hb5 hs5
        have p0 := L5.cell0
        have p1 := L5.cell1
        have p2 := L5.frozen 0
        have p3 := L5.frozen 1
        go_wp2
        (try simp only [Exit.inBlock, Exit.then])
        exact end_one rfl L5 HB5.out (by omega) HS5.out rfl rfl

set_option maxRecDepth 100000 in
set_option maxHeartbeats 2000000 in
theorem Long_any (w : World) (neg : Bool) (low : Int) (wv : Value) (ws : List Nat) (hlow0 : 0 ≤ low) (_ : low ≤ 255) (h : RW w w.heap.size wv ws) :
    Calls Tryz.prog 29 #[.agg #[.bool neg, .int .u8 low, wv]] w fun e w' => Below w.heap.size w w' ∧ RetV w' (sgn neg (val (draftDs (low.toNat % 8) 40 ws))) e := by
  obtain ⟨i0, hi, hz0, hz1, hz2⟩ := info_parts info_int
  obtain ⟨A, c, rfl, hc, hc', hsm, hA⟩ := h
  have HSM := Lib.hid hsm
  have HA := Lib.hid hA
  clear hsm hA
  have hmk := mk_low low hlow0
  go_enter Tryz.func29, Tryz.ntmps29
  go_wp2
  have HO := Lib.hid (show OwnV (((w.alloc (.cells #[.bool neg, .int .u8 low, .slice A ws.length c] 27)).alloc (.cells #[.bool false, .slice none 0 0] 24)).alloc (zerosObj (low.toNat % 8))) (w.heap.size + 2) (.slice (some ⟨w.heap.size + 1 + 1, 0, none⟩) (low.toNat % 8) (low.toNat % 8)) (ni (draftDs (low.toNat % 8) 0 ws)) from by
    have h := OwnV.make ((w.alloc (.cells #[.bool neg, .int .u8 low, .slice A ws.length c] 27)).alloc (.cells #[.bool false, .slice none 0 0] 24)) (w.heap.size + 2) (low.toNat % 8) (by simp) (by omega)
    have e : draftDs (low.toNat % 8) 0 ws = List.replicate (low.toNat % 8) 0 := by simp [draftDs]
    rw [e]
    simpa using h)
  obtain ⟨w0, hw0⟩ : ∃ w0, w0 = ((w.alloc (.cells #[.bool neg, .int .u8 low, .slice A ws.length c] 27)).alloc (.cells #[.bool false, .slice none 0 0] 24)).alloc (zerosObj (low.toNat % 8)) := ⟨_, rfl⟩
  have hbk : (w.alloc (.cells #[.bool neg, .int .u8 low, .slice A ws.length c] 27)).heap[w.heap.size]? = some (.cells #[.bool neg, .int .u8 low, .slice A ws.length c] 27 (0, 0)) := heap_alloc_new w _
  have hbk2 : w0.heap[w.heap.size]? = some (.cells #[.bool neg, .int .u8 low, .slice A ws.length c] 27 (0, 0)) := by
    rw [hw0]
    exact (Below.heap_alloc _ _ _ (by simp <;> omega)).trans ((Below.heap_alloc _ _ _ (by simp)).trans hbk)
  have q0 : w0.cell? ⟨w.heap.size, 0, none⟩ = some (.bool neg) := by simp [World.cell?, hbk2]
  have q2 : w0.cell? ⟨w.heap.size, 2, none⟩ = some (.slice A ws.length c) := by simp [World.cell?, hbk2]
  have L1 : LB w0 (w.heap.size + 1) (.bool false) (.slice none 0 0) := by rw [hw0]; (repeat (first | (refine LB.new' ?_; simp; done) | refine LB.alloc ?_ _))
  have HS := Lib.hid (show w.heap.size + 2 ≤ w0.heap.size by rw [hw0]; simp)
  have hbw0 : Below w.heap.size w w0 := by rw [hw0]; (repeat' (first | exact Below.refl _ _ | refine Below.drew ?_ | refine Below.alloc ?_ (by first | exact Nat.le_refl _ | (simp; done) | (simp; omega)) _))
  rw [← hw0]
  rw [← hw0] at HO
  clear hbk hbk2 hw0
  clear hmk
  go_loopw [3, 4] (fun v iv wr => ∃ (i : Nat), i ≤ 40 ∧ i ≤ ws.length ∧ iv = .int .i64 i ∧ (∃ A' n' c', v = .slice A' n' c') ∧ Hid (OwnV wr (w.heap.size + 2) v (ni (draftDs (low.toNat % 8) i ws))) ∧ wr.cell? ⟨w.heap.size, 0, none⟩ = some (.bool neg) ∧ wr.cell? ⟨w.heap.size, 2, none⟩ = some (.slice A ws.length c) ∧ LB wr (w.heap.size + 1) (.bool false) (.slice none 0 0) ∧ Hid (w.heap.size + 2 ≤ wr.heap.size) ∧ Below w.heap.size w wr) (fun _ iv _ => 40 - (intOf iv).toNat)
  case atStart => exact ⟨0, by omega, by omega, rfl, ⟨_, _, _, rfl⟩, HO, q0, q2, L1, HS, hbw0⟩
  case round =>
    clear HO q0 q2 L1 HS hbw0
    obtain ⟨i, hiK, hin, rfl, ⟨A', n', c', rfl⟩, ho, q0, q2, L1, hsz, hbw⟩ := hrel
    have hlt1 := L1.lt
    by_cases hgo : i < ws.length ∧ i < 40
    · obtain ⟨hlt, hltK⟩ := hgo
      obtain ⟨g, off, rfl, hg, hx⟩ := HA.out (by omega)
      obtain ⟨x, hx0⟩ : ∃ x, x = ws[i] := ⟨_, rfl⟩
      have hx1 := (hbw.cell (p := ⟨g, off + i, none⟩) hg).trans (hx i hlt)
      have hxs := HSM.out ws[i] (List.getElem_mem hlt)
      rw [← hx0] at hx1 hxs
      have hx2 : (x : Int) < 4294967296 := by omega
      have HN := Lib.hid (show ni (draftDs (low.toNat % 8) (i + 1) ws) = ni (draftDs (low.toNat % 8) i ws) ++ [((x % 1000000000 : Nat) : Int)] by rw [draft_next _ _ _ hlt, ni_append, hx0]; rfl)
      have HL := Lib.hid (show (ni (draftDs (low.toNat % 8) i ws)).length ≤ 60 by rw [ni_length]; have := draft_len (low.toNat % 8) i ws; omega)
      have HB := Lib.hid hbw
      have hown := ho.out.alloc (.cells #[.int .i64 ((x : Int) % 1000000000)] 3)
      have hini : (i : Int) < ws.length := by omega
      have hini2 : (i : Int) < 40 := by omega
      have hi00 : (0 : Int) ≤ i := by omega
      have hx00 : (0 : Int) ≤ x := by omega
      clear hx0 hbw hx
      go_wp2_with (at_builtin; refine wpList_append_own_at _ rfl _ _ 22 rfl (w.heap.size + 2) 3 i0 (.int .i64 0) 1 8 Tryz.underlying22 hi hz0 hz1 hz2 rfl (by decide) (.slice A' n' c') (ni (draftDs (low.toNat % 8) i ws)).length ((ni (draftDs (low.toNat % 8) i ws)).map (Value.int .i64)) rfl hown ⟨wr.heap.size, 0, none⟩ 1 1 [.int .i64 ((x : Int) % 1000000000)] rfl rfl (cell_one_new _ _ _) (by intro u hu; simp at hu; subst hu; rfl) (by have := HL.out; unfold maxLen; omega) (by have := HL.out; omega) (by have := hsz.out; simp; omega) ?_)
      intro v' w' hown' hgrow hne hblk
      have hv' : OwnV w' (w.heap.size + 2) v' (ni (draftDs (low.toNat % 8) (i + 1) ws)) := by
        rw [HN.out]
        unfold OwnV
        rw [List.length_append, List.map_append]
        exact hown'
      have hrow : ∀ b, b < w.heap.size + 2 → (Value.slice A' n' c').ownBlock ≠ some b := fun b hb he => by
        have := (World.ownsRow.lt ho.out b he).1
        omega
      have M1 := (L1.alloc (.cells #[.int .i64 ((x : Int) % 1000000000)] 3)).grown hgrow (hrow _ (by omega))
      have HB2 := Lib.hid ((HB.out.alloc HB.out.size (.cells #[.int .i64 ((x : Int) % 1000000000)] 3)).grown hgrow (by have := HB.out.size; simp; omega) (fun g' he => by have := (World.ownsRow.lt ho.out g' he).1; omega))
      have HS2 := Lib.hid (show w.heap.size + 2 ≤ w'.heap.size by have h1 := hgrow.size; have h2 := hsz.out; simp at h1; omega)
      have r0 : w'.cell? ⟨w.heap.size, 0, none⟩ = some (.bool neg) := (hgrow.cell_far (a := ⟨w.heap.size, 0, none⟩) (by simp; omega) (Ne.symm (hrow w.heap.size (by omega)))).trans ((World.cell?_of_block (Below.heap_alloc wr _ _ (by show w.heap.size < wr.heap.size; omega))).trans q0)
      have r2 : w'.cell? ⟨w.heap.size, 2, none⟩ = some (.slice (some ⟨g, off, none⟩) ws.length c) := (hgrow.cell_far (a := ⟨w.heap.size, 2, none⟩) (by simp; omega) (Ne.symm (hrow w.heap.size (by omega)))).trans ((World.cell?_of_block (Below.heap_alloc wr _ _ (by show w.heap.size < wr.heap.size; omega))).trans q2)
      have HV := Lib.hid hv'
      rcases hv'.form with ⟨_, he⟩ | ⟨g', cap, rfl, _⟩
      · rw [HN.out] at he; simp at he
      · clear hown' hgrow hne hblk hown hv' hrow q0 q2 L1 HB ho
        go_wp2
        go_roundw
        case rel => exact ⟨i + 1, by omega, by omega, by go_num, ⟨_, _, _, rfl⟩, HV, r0, r2, M1, HS2, HB2.out⟩
        case measure => simp [intOf]; omega
    · have HB := Lib.hid hbw
      have HDS := Lib.hid (show draftDs (low.toNat % 8) i ws = draftDs (low.toNat % 8) 40 ws by
        unfold draftDs
        by_cases hlt : i < ws.length
        · rw [show i = 40 by omega]
        · rw [List.take_of_length_le (by omega), List.take_of_length_le (by omega)])
      have HRI := Lib.hid ho.out.ri
      have hgo1 : i < ws.length → ¬ (i : Int) < 40 := fun h h2 => hgo ⟨h, by omega⟩
      have HGO := Lib.hid hgo1
      clear hbw hgo hgo1
      by_cases hlt : i < ws.length
      · have hlti : (i : Int) < ws.length := by omega
        have hltk : decide ((i : Int) < 40) = false := by rw [decide_eq_false_iff_not]; exact HGO.out hlt
        go_wp2_with fail
        refine (made_any _ neg _ (draftDs (low.toNat % 8) i ws) HRI.out (draft_small _ _ _) (by have := draft_len (low.toNat % 8) i ws; omega)).mono ?_
        rintro e w5 ⟨hb5, v5, rfl, hv5⟩
        rw [HDS.out] at hv5
        obtain ⟨s5, rfl, hs5⟩ := hv5
        obtain ⟨A5, c5, rfl, -⟩ := (show RI _ _ _ _ from hs5)
        have HS5 := Lib.hid hs5
        have L5 := L1.step hb5
        have HB5 := Lib.hid (HB.out.trans (hb5.mono HB.out.size))
        clear hb5 hs5
        have p0 := L5.cell0
        have p1 := L5.cell1
        have p2 := L5.frozen 0
        have p3 := L5.frozen 1
        go_wp2
        (try simp only [Exit.inBlock, Exit.then])
        exact end_one rfl L5 HB5.out (by omega) HS5.out rfl rfl
      · have hlti : ¬ (i : Int) < ws.length := by omega
        go_wp2_with fail
        refine (made_any _ neg _ (draftDs (low.toNat % 8) i ws) HRI.out (draft_small _ _ _) (by have := draft_len (low.toNat % 8) i ws; omega)).mono ?_
        rintro e w5 ⟨hb5, v5, rfl, hv5⟩
        rw [HDS.out] at hv5
        obtain ⟨s5, rfl, hs5⟩ := hv5
        obtain ⟨A5, c5, rfl, -⟩ := (show RI _ _ _ _ from hs5)
        have HS5 := Lib.hid hs5
        have L5 := L1.step hb5
        have HB5 := Lib.hid (HB.out.trans (hb5.mono HB.out.size))
        clear hb5 hs5
        have p0 := L5.cell0
        have p1 := L5.cell1
        have p2 := L5.frozen 0
        have p3 := L5.frozen 1
        go_wp2
        (try simp only [Exit.inBlock, Exit.then])
        exact end_one rfl L5 HB5.out (by omega) HS5.out rfl rfl

/-- size: without the sign. -/
theorem size_num (w : World) (v : Value) (z : Int) (h : LV w w.heap.size v z) :
    Calls Tryz.prog 42 #[v] w fun e w' => Below w.heap.size w w' ∧ RetV w' (z.natAbs : Int) e := by
  obtain ⟨s, rfl, hs⟩ := h
  obtain ⟨A, c, rfl, -⟩ := (show RI _ _ _ _ from hs)
  have L2 : LB ((w.alloc (.cells #[.bool false, .slice A (ni (dig z.natAbs)).length c] 24)).alloc (.cells #[.bool false, .slice A (ni (dig z.natAbs)).length c] 24)) (w.heap.size + 1) (.bool false) (.slice A (ni (dig z.natAbs)).length c) := by (repeat (first | (refine LB.new' ?_; simp; done) | refine LB.alloc ?_ _))
  have HB := Lib.hid (show Below w.heap.size w ((w.alloc (.cells #[.bool false, .slice A (ni (dig z.natAbs)).length c] 24)).alloc (.cells #[.bool false, .slice A (ni (dig z.natAbs)).length c] 24)) from by (repeat' (first | exact Below.refl _ _ | refine Below.drew ?_ | refine Below.alloc ?_ (by first | exact Nat.le_refl _ | (simp; done) | (simp; omega)) _)))
  have HS := Lib.hid (hs.step HB.out)
  clear hs
  go_enter Tryz.func42, Tryz.ntmps42
  go_wp2
  (try simp only [Exit.inBlock, Exit.then])
  refine bodyPost_ret (LB.ret1 rfl _ L2 rfl) rfl ⟨HB.out, _, rfl, _, ?_, by rw [Int.natAbs_natCast]; exact HS.out⟩
  rw [show decide ((z.natAbs : Int) < 0) = false by simp]
end Go.Proofs.YtnbanlmkoljghaaGreatDoor

/- The law package's own: a row of at most 60 places, of its own. -/
namespace Go.Proofs.YtnbanlmkoljghaaGreatDoor
open Go Go.RowKit Dig

set_option maxRecDepth 100000 in
set_option maxHeartbeats 2000000 in
theorem own_any (w : World) (v : Value) (na : Bool) (l : List Int) (h : LR w w.heap.size v na l) :
    Calls Tryz.prog 18 #[v] w fun e w' => Below w.heap.size w w' ∧ ∃ v', e = .returned v' ∧ LR w' w'.heap.size v' na (l.take 60) := by
  obtain ⟨m, hm0⟩ : ∃ m, m = l.take 60 := ⟨_, rfl⟩
  rw [← hm0]
  replace hm0 := Lib.hid hm0
  obtain ⟨s, rfl, hs⟩ := h
  obtain ⟨A, c, rfl, hc, hm, -⟩ := (show RI _ _ _ _ from hs)
  replace hs := Lib.hid hs
  have L1 := LB.new w (.bool na) (.slice A l.length c)
  have L2 := LB.new (w.alloc (.cells #[.bool na, .slice A l.length c] 24)) (.bool false) (.slice none 0 0)
  have qa0 := (L1.alloc (.cells #[.bool false, .slice none 0 0] 24)).cell1
  go_enter Tryz.func18, Tryz.ntmps18
  go_wp2_with fail
  rw [show (min (l.length : Int) 60).toNat = (l.take 60).length by rw [List.length_take]; omega]
  have hs1 : RI w w.heap.size (.slice A (l.take 60).length c) (l.take 60) := hs.out.first' 60
  have hl6 : (l.take 60).length ≤ 60 := by rw [List.length_take]; omega
  rw [← hm0.out] at hs1 hl6 ⊢
  have hB2 : Below w.heap.size w ((w.alloc (.cells #[.bool na, .slice A l.length c] 24)).alloc (.cells #[.bool false, .slice none 0 0] 24)) := by (repeat' (first | exact Below.refl _ _ | refine Below.drew ?_ | refine Below.alloc ?_ (by first | exact Nat.le_refl _ | (simp; done) | (simp; omega)) _))
  refine (clone_ints _ _ m (hs1.step hB2) (by omega)).mono ?_
  rintro e w1 ⟨hb1, v1, rfl, ho⟩
  obtain ⟨A1, c1, rfl, -⟩ := (show RI _ _ _ _ from ho.ri)
  have M1 := (L1.alloc (.cells #[.bool false, .slice none 0 0] 24)).step hb1
  have M2 := L2.step hb1
  have HB1 := Lib.hid (hB2.trans (hb1.mono hB2.size))
  have hr := Lib.hid ho.ri
  clear hs1 hb1 ho qa0 L1 L2 hB2 hs
  have qa0 := M1.cell0
  have qa1 := M1.cell1
  have qa2 := M1.frozen 0
  have qa3 := M1.frozen 1
  have qb0 := M2.cell0
  have qb1 := M2.cell1
  have qb2 := M2.frozen 0
  have qb3 := M2.frozen 1
  have hz : (w.alloc (.cells #[.bool na, .slice A l.length c] 24)).heap.size = w.heap.size + 1 := by simp
  rw [hz] at M2 qb0 qb1 qb2 qb3
  go_wp2_with fail
  have M3 := M1.set1 (.slice A1 m.length c1)
  have r1 := hr.out.setLB M1 1 (.slice A1 m.length c1)
  have M4 := M2.far (p := ⟨w.heap.size, 1, none⟩) (by simp) (.slice A1 m.length c1)
  obtain ⟨h1, h2⟩ := M4.put (q := na) (show RI _ (w1.setCell ⟨w.heap.size, 1, none⟩ (.slice A1 m.length c1)).heap.size _ _ from (by simpa [World.setCell] using r1))
  refine bodyPost_ret (LB.ret1 rfl _ h1 rfl) rfl ⟨?_, _, rfl, _, rfl, h2⟩
  exact ((HB1.out.setCell (p := ⟨w.heap.size, 1, none⟩) (Nat.le_refl _) _).setCell (p := ⟨w.heap.size + 1, 0, none⟩) (Nat.le_succ _) _).setCell (p := ⟨w.heap.size + 1, 1, none⟩) (Nat.le_succ _) _
end Go.Proofs.YtnbanlmkoljghaaGreatDoor

/- The law package's pairs of a Two (written by gen_pairs.py). -/
namespace Go.Proofs.YtnbanlmkoljghaaGreatDoor
open Go Go.RowKit Dig

theorem RW.drew1 {w : World} {v : Value} {l : List Nat} (h : RW w w.heap.size v l) : RW w.drew w.drew.heap.size v l := h
/-- What pairs answers: the block of its four pairs, and what their rows read as. -/
structure Pairs (w : World) (g : Nat) (na nb : Bool) (la lb : List Int) (X Y V U : Int) (s0 s1 s2 s3 s4 s5 s6 s7 : Value) : Prop where
  block : CB w g 33 #[.bool na, s0, .bool nb, s1, .bool (decide (X < 0)), s2, .bool (decide (Y < 0)), s3, .bool (decide (X < 0)), s4, .bool (decide (V < 0)), s5, .bool (decide (U < 0)), s6, .bool nb, s7]
  r0 : RI w w.heap.size (s0) (la.take 60)
  r1 : RI w w.heap.size (s1) (lb.take 60)
  r2 : RI w w.heap.size (s2) (ni (dig X.natAbs))
  r3 : RI w w.heap.size (s3) (ni (dig Y.natAbs))
  r4 : RI w w.heap.size (s4) (ni (dig X.natAbs))
  r5 : RI w w.heap.size (s5) (ni (dig V.natAbs))
  r6 : RI w w.heap.size (s6) (ni (dig U.natAbs))
  r7 : RI w w.heap.size (s7) (lb.take 60)

set_option maxRecDepth 100000 in
set_option maxHeartbeats 4000000 in
theorem pairs_any (w : World) (na nb nx ny : Bool) (sa sb wx wy : Value) (la lb : List Int) (lx ly : Int) (dx dy : List Nat) (ha : RI w w.heap.size sa la) (hb : RI w w.heap.size sb lb)
    (hx0 : 0 ≤ lx) (hx1 : lx ≤ 255) (hx : RW w w.heap.size wx dx) (hy0 : 0 ≤ ly) (hy1 : ly ≤ 255) (hy : RW w w.heap.size wy dy) (X Y V U : Int)
    (hX : sgn nx (val (draftDs (lx.toNat % 8) 40 dx)) = X) (hY : sgn ny (val (draftDs (ly.toNat % 8) 40 dy)) = Y) (hV : sgn ny (val (draftDs 0 3 dy)) = V) (hU : sgn nx (val (draftDs 0 3 dx)) = U) :
    Calls Tryz.prog 17 #[.agg #[.bool na, sa, .bool nb, sb, .bool nx, .int .u8 lx, wx, .bool ny, .int .u8 ly, wy]] w fun e w' => Below w.heap.size w w' ∧ ∃ g s0 s1 s2 s3 s4 s5 s6 s7, e = .returned (.slice (some ⟨g, 0, none⟩) 4 4) ∧ w.heap.size ≤ g ∧ Pairs w' g na nb la lb X Y V U s0 s1 s2 s3 s4 s5 s6 s7 := by
  have B0 : CB (w.alloc (.cells #[.bool na, sa, .bool nb, sb, .bool nx, .int .u8 lx, wx, .bool ny, .int .u8 ly, wy] 29)) w.heap.size 29 #[.bool na, sa, .bool nb, sb, .bool nx, .int .u8 lx, wx, .bool ny, .int .u8 ly, wy] := CB.new _ _ _
  have hw0 : Below w.heap.size w (w.alloc (.cells #[.bool na, sa, .bool nb, sb, .bool nx, .int .u8 lx, wx, .bool ny, .int .u8 ly, wy] 29)) := (Below.refl _ _).alloc (Nat.le_refl _) _
  replace ha := Lib.hid (ha.step hw0)
  replace hb := Lib.hid (hb.step hw0)
  replace hx := Lib.hid (hx.step hw0)
  replace hy := Lib.hid (hy.step hw0)
  replace hX := Lib.hid hX
  replace hY := Lib.hid hY
  replace hV := Lib.hid hV
  replace hU := Lib.hid hU
  have HB0 := Lib.hid hw0
  clear hw0
  have q0 := B0.cell 0 rfl
  have q1 := B0.cell 1 rfl
  have q2 := B0.cell 2 rfl
  have q3 := B0.cell 3 rfl
  have q4 := B0.cell 4 rfl
  have q5 := B0.cell 5 rfl
  have q6 := B0.cell 6 rfl
  have q7 := B0.cell 7 rfl
  have q8 := B0.cell 8 rfl
  have q9 := B0.cell 9 rfl
  go_enter Tryz.func17, Tryz.ntmps17
  go_wp2_with fail
  have tok0 : True := trivial
  have tok1 : True := trivial
  have tok2 : True := trivial
  have tok3 : True := trivial
  have tok4 : True := trivial
  have tok5 : True := trivial
  have tok6 : True := trivial
  have tok7 : True := trivial
  go_region_held3 (fun w' => w'.cell? ⟨w.heap.size, 0, none⟩ = some (.bool na) ∧ w'.cell? ⟨w.heap.size, 1, none⟩ = some (sa) ∧ w'.cell? ⟨w.heap.size, 2, none⟩ = some (.bool nb) ∧ w'.cell? ⟨w.heap.size, 3, none⟩ = some (sb) ∧ w'.cell? ⟨w.heap.size, 4, none⟩ = some (.bool nx) ∧ w'.cell? ⟨w.heap.size, 5, none⟩ = some (.int .u8 lx) ∧ w'.cell? ⟨w.heap.size, 6, none⟩ = some (wx) ∧ w'.cell? ⟨w.heap.size, 7, none⟩ = some (.bool ny) ∧ w'.cell? ⟨w.heap.size, 8, none⟩ = some (.int .u8 ly) ∧ w'.cell? ⟨w.heap.size, 9, none⟩ = some (wy)) (first
    | (exact ⟨B0.drew.cell 0 rfl, B0.drew.cell 1 rfl, B0.drew.cell 2 rfl, B0.drew.cell 3 rfl, B0.drew.cell 4 rfl, B0.drew.cell 5 rfl, B0.drew.cell 6 rfl, B0.drew.cell 7 rfl, B0.drew.cell 8 rfl, B0.drew.cell 9 rfl⟩)
    | (exact ⟨B0.cell 0 rfl, B0.cell 1 rfl, B0.cell 2 rfl, B0.cell 3 rfl, B0.cell 4 rfl, B0.cell 5 rfl, B0.cell 6 rfl, B0.cell 7 rfl, B0.cell 8 rfl, B0.cell 9 rfl⟩)
    | (exact ⟨B1.cell 0 rfl, B1.cell 1 rfl, B1.cell 2 rfl, B1.cell 3 rfl, B1.cell 4 rfl, B1.cell 5 rfl, B1.cell 6 rfl, B1.cell 7 rfl, B1.cell 8 rfl, B1.cell 9 rfl⟩)
    | (exact ⟨B2.cell 0 rfl, B2.cell 1 rfl, B2.cell 2 rfl, B2.cell 3 rfl, B2.cell 4 rfl, B2.cell 5 rfl, B2.cell 6 rfl, B2.cell 7 rfl, B2.cell 8 rfl, B2.cell 9 rfl⟩)
    | (exact ⟨B3.cell 0 rfl, B3.cell 1 rfl, B3.cell 2 rfl, B3.cell 3 rfl, B3.cell 4 rfl, B3.cell 5 rfl, B3.cell 6 rfl, B3.cell 7 rfl, B3.cell 8 rfl, B3.cell 9 rfl⟩)
    | (exact ⟨B4.cell 0 rfl, B4.cell 1 rfl, B4.cell 2 rfl, B4.cell 3 rfl, B4.cell 4 rfl, B4.cell 5 rfl, B4.cell 6 rfl, B4.cell 7 rfl, B4.cell 8 rfl, B4.cell 9 rfl⟩)
    | (exact ⟨B5.cell 0 rfl, B5.cell 1 rfl, B5.cell 2 rfl, B5.cell 3 rfl, B5.cell 4 rfl, B5.cell 5 rfl, B5.cell 6 rfl, B5.cell 7 rfl, B5.cell 8 rfl, B5.cell 9 rfl⟩)
    | (exact ⟨B6.cell 0 rfl, B6.cell 1 rfl, B6.cell 2 rfl, B6.cell 3 rfl, B6.cell 4 rfl, B6.cell 5 rfl, B6.cell 6 rfl, B6.cell 7 rfl, B6.cell 8 rfl, B6.cell 9 rfl⟩)
    | (exact ⟨B7.cell 0 rfl, B7.cell 1 rfl, B7.cell 2 rfl, B7.cell 3 rfl, B7.cell 4 rfl, B7.cell 5 rfl, B7.cell 6 rfl, B7.cell 7 rfl, B7.cell 8 rfl, B7.cell 9 rfl⟩)
    | (exact ⟨B8.cell 0 rfl, B8.cell 1 rfl, B8.cell 2 rfl, B8.cell 3 rfl, B8.cell 4 rfl, B8.cell 5 rfl, B8.cell 6 rfl, B8.cell 7 rfl, B8.cell 8 rfl, B8.cell 9 rfl⟩)
    | (exact ⟨(B8.alloc _).cell 0 rfl, (B8.alloc _).cell 1 rfl, (B8.alloc _).cell 2 rfl, (B8.alloc _).cell 3 rfl, (B8.alloc _).cell 4 rfl, (B8.alloc _).cell 5 rfl, (B8.alloc _).cell 6 rfl, (B8.alloc _).cell 7 rfl, (B8.alloc _).cell 8 rfl, (B8.alloc _).cell 9 rfl⟩)
    | go_keep) (first
    | (go_at_call 18; clear tok0; ((with_reducible refine (own_any _ _ na _ (LR.of (by first | exact ha.out | exact RI.drew1 ha.out))).mono ?_); rintro e u0 ⟨hbn, v, rfl, s0, rfl, hs⟩; have HB1 := Lib.hid (show Below w.heap.size w u0 from by first | exact below_call0 HB0.out hbn | exact below_call_drew0 HB0.out hbn); clear HB0; have ha_0 := Lib.hid (RI.step (by first | exact ha.out | exact RI.drew1 ha.out) hbn); clear ha; have hb_0 := Lib.hid (RI.step (by first | exact hb.out | exact RI.drew1 hb.out) hbn); clear hb; have hx_0 := Lib.hid (RW.step (by first | exact hx.out | exact RW.drew1 hx.out) hbn); clear hx; have hy_0 := Lib.hid (RW.step (by first | exact hy.out | exact RW.drew1 hy.out) hbn); clear hy; have S0 := Lib.hid hs; clear hs; have B1 := CB.step (t := 29) (cs := #[.bool na, sa, .bool nb, sb, .bool nx, .int .u8 lx, wx, .bool ny, .int .u8 ly, wy]) (b := w.heap.size) (by first | exact B0 | exact CB.drew B0) hbn; clear B0 hbn; clear q0 q1 q2 q3 q4 q5 q6 q7 q8 q9; have q0_0 := B1.cell 0 rfl; have q1_0 := B1.cell 1 rfl; have q2_0 := B1.cell 2 rfl; have q3_0 := B1.cell 3 rfl; have q4_0 := B1.cell 4 rfl; have q5_0 := B1.cell 5 rfl; have q6_0 := B1.cell 6 rfl; have q7_0 := B1.cell 7 rfl; have q8_0 := B1.cell 8 rfl; have q9_0 := B1.cell 9 rfl))
    | (go_at_call 18; clear tok1; ((with_reducible refine (own_any _ _ nb _ (LR.of (by first | exact hb_0.out | exact RI.drew1 hb_0.out))).mono ?_); rintro e u1 ⟨hbn, v, rfl, s1, rfl, hs⟩; have HB2 := Lib.hid (show Below w.heap.size w u1 from by first | exact below_call0 HB1.out hbn | exact below_call_drew0 HB1.out hbn); clear HB1; have ha_1 := Lib.hid (RI.step (by first | exact ha_0.out | exact RI.drew1 ha_0.out) hbn); clear ha_0; have hb_1 := Lib.hid (RI.step (by first | exact hb_0.out | exact RI.drew1 hb_0.out) hbn); clear hb_0; have hx_1 := Lib.hid (RW.step (by first | exact hx_0.out | exact RW.drew1 hx_0.out) hbn); clear hx_0; have hy_1 := Lib.hid (RW.step (by first | exact hy_0.out | exact RW.drew1 hy_0.out) hbn); clear hy_0; have s0_1 := Lib.hid (RI.step (by first | exact S0.out | exact RI.drew1 S0.out) hbn); clear S0; have S1 := Lib.hid hs; clear hs; have B2 := CB.step (t := 29) (cs := #[.bool na, sa, .bool nb, sb, .bool nx, .int .u8 lx, wx, .bool ny, .int .u8 ly, wy]) (b := w.heap.size) (by first | exact B1 | exact CB.drew B1) hbn; clear B1 hbn; clear q0_0 q1_0 q2_0 q3_0 q4_0 q5_0 q6_0 q7_0 q8_0 q9_0; have q0_1 := B2.cell 0 rfl; have q1_1 := B2.cell 1 rfl; have q2_1 := B2.cell 2 rfl; have q3_1 := B2.cell 3 rfl; have q4_1 := B2.cell 4 rfl; have q5_1 := B2.cell 5 rfl; have q6_1 := B2.cell 6 rfl; have q7_1 := B2.cell 7 rfl; have q8_1 := B2.cell 8 rfl; have q9_1 := B2.cell 9 rfl))
    | (go_at_call 29; clear tok2; ((with_reducible refine (Long_any _ nx lx _ dx hx0 hx1 (by first | exact hx_1.out | exact RW.drew1 hx_1.out)).mono ?_); rintro e u2 ⟨hbn, v, rfl, hv⟩; rw [hX.out] at hv; obtain ⟨s2, rfl, hs⟩ := hv; have HB3 := Lib.hid (show Below w.heap.size w u2 from by first | exact below_call0 HB2.out hbn | exact below_call_drew0 HB2.out hbn); clear HB2; have ha_2 := Lib.hid (RI.step (by first | exact ha_1.out | exact RI.drew1 ha_1.out) hbn); clear ha_1; have hb_2 := Lib.hid (RI.step (by first | exact hb_1.out | exact RI.drew1 hb_1.out) hbn); clear hb_1; have hx_2 := Lib.hid (RW.step (by first | exact hx_1.out | exact RW.drew1 hx_1.out) hbn); clear hx_1; have hy_2 := Lib.hid (RW.step (by first | exact hy_1.out | exact RW.drew1 hy_1.out) hbn); clear hy_1; have s0_2 := Lib.hid (RI.step (by first | exact s0_1.out | exact RI.drew1 s0_1.out) hbn); clear s0_1; have s1_2 := Lib.hid (RI.step (by first | exact S1.out | exact RI.drew1 S1.out) hbn); clear S1; have S2 := Lib.hid hs; clear hs; have B3 := CB.step (t := 29) (cs := #[.bool na, sa, .bool nb, sb, .bool nx, .int .u8 lx, wx, .bool ny, .int .u8 ly, wy]) (b := w.heap.size) (by first | exact B2 | exact CB.drew B2) hbn; clear B2 hbn; clear q0_1 q1_1 q2_1 q3_1 q4_1 q5_1 q6_1 q7_1 q8_1 q9_1; have q0_2 := B3.cell 0 rfl; have q1_2 := B3.cell 1 rfl; have q2_2 := B3.cell 2 rfl; have q3_2 := B3.cell 3 rfl; have q4_2 := B3.cell 4 rfl; have q5_2 := B3.cell 5 rfl; have q6_2 := B3.cell 6 rfl; have q7_2 := B3.cell 7 rfl; have q8_2 := B3.cell 8 rfl; have q9_2 := B3.cell 9 rfl))
    | (go_at_call 29; clear tok3; ((with_reducible refine (Long_any _ ny ly _ dy hy0 hy1 (by first | exact hy_2.out | exact RW.drew1 hy_2.out)).mono ?_); rintro e u3 ⟨hbn, v, rfl, hv⟩; rw [hY.out] at hv; obtain ⟨s3, rfl, hs⟩ := hv; have HB4 := Lib.hid (show Below w.heap.size w u3 from by first | exact below_call0 HB3.out hbn | exact below_call_drew0 HB3.out hbn); clear HB3; have ha_3 := Lib.hid (RI.step (by first | exact ha_2.out | exact RI.drew1 ha_2.out) hbn); clear ha_2; have hb_3 := Lib.hid (RI.step (by first | exact hb_2.out | exact RI.drew1 hb_2.out) hbn); clear hb_2; have hx_3 := Lib.hid (RW.step (by first | exact hx_2.out | exact RW.drew1 hx_2.out) hbn); clear hx_2; have hy_3 := Lib.hid (RW.step (by first | exact hy_2.out | exact RW.drew1 hy_2.out) hbn); clear hy_2; have s0_3 := Lib.hid (RI.step (by first | exact s0_2.out | exact RI.drew1 s0_2.out) hbn); clear s0_2; have s1_3 := Lib.hid (RI.step (by first | exact s1_2.out | exact RI.drew1 s1_2.out) hbn); clear s1_2; have s2_3 := Lib.hid (RI.step (by first | exact S2.out | exact RI.drew1 S2.out) hbn); clear S2; have S3 := Lib.hid hs; clear hs; have B4 := CB.step (t := 29) (cs := #[.bool na, sa, .bool nb, sb, .bool nx, .int .u8 lx, wx, .bool ny, .int .u8 ly, wy]) (b := w.heap.size) (by first | exact B3 | exact CB.drew B3) hbn; clear B3 hbn; clear q0_2 q1_2 q2_2 q3_2 q4_2 q5_2 q6_2 q7_2 q8_2 q9_2; have q0_3 := B4.cell 0 rfl; have q1_3 := B4.cell 1 rfl; have q2_3 := B4.cell 2 rfl; have q3_3 := B4.cell 3 rfl; have q4_3 := B4.cell 4 rfl; have q5_3 := B4.cell 5 rfl; have q6_3 := B4.cell 6 rfl; have q7_3 := B4.cell 7 rfl; have q8_3 := B4.cell 8 rfl; have q9_3 := B4.cell 9 rfl))
    | (go_at_call 29; clear tok4; ((with_reducible refine (Long_any _ nx lx _ dx hx0 hx1 (by first | exact hx_3.out | exact RW.drew1 hx_3.out)).mono ?_); rintro e u4 ⟨hbn, v, rfl, hv⟩; rw [hX.out] at hv; obtain ⟨s4, rfl, hs⟩ := hv; have HB5 := Lib.hid (show Below w.heap.size w u4 from by first | exact below_call0 HB4.out hbn | exact below_call_drew0 HB4.out hbn); clear HB4; have ha_4 := Lib.hid (RI.step (by first | exact ha_3.out | exact RI.drew1 ha_3.out) hbn); clear ha_3; have hb_4 := Lib.hid (RI.step (by first | exact hb_3.out | exact RI.drew1 hb_3.out) hbn); clear hb_3; have hx_4 := Lib.hid (RW.step (by first | exact hx_3.out | exact RW.drew1 hx_3.out) hbn); clear hx_3; have hy_4 := Lib.hid (RW.step (by first | exact hy_3.out | exact RW.drew1 hy_3.out) hbn); clear hy_3; have s0_4 := Lib.hid (RI.step (by first | exact s0_3.out | exact RI.drew1 s0_3.out) hbn); clear s0_3; have s1_4 := Lib.hid (RI.step (by first | exact s1_3.out | exact RI.drew1 s1_3.out) hbn); clear s1_3; have s2_4 := Lib.hid (RI.step (by first | exact s2_3.out | exact RI.drew1 s2_3.out) hbn); clear s2_3; have s3_4 := Lib.hid (RI.step (by first | exact S3.out | exact RI.drew1 S3.out) hbn); clear S3; have S4 := Lib.hid hs; clear hs; have B5 := CB.step (t := 29) (cs := #[.bool na, sa, .bool nb, sb, .bool nx, .int .u8 lx, wx, .bool ny, .int .u8 ly, wy]) (b := w.heap.size) (by first | exact B4 | exact CB.drew B4) hbn; clear B4 hbn; clear q0_3 q1_3 q2_3 q3_3 q4_3 q5_3 q6_3 q7_3 q8_3 q9_3; have q0_4 := B5.cell 0 rfl; have q1_4 := B5.cell 1 rfl; have q2_4 := B5.cell 2 rfl; have q3_4 := B5.cell 3 rfl; have q4_4 := B5.cell 4 rfl; have q5_4 := B5.cell 5 rfl; have q6_4 := B5.cell 6 rfl; have q7_4 := B5.cell 7 rfl; have q8_4 := B5.cell 8 rfl; have q9_4 := B5.cell 9 rfl))
    | (go_at_call 28; clear tok5; ((with_reducible refine (Short_any _ ny ly _ dy hy0 hy1 (by first | exact hy_4.out | exact RW.drew1 hy_4.out)).mono ?_); rintro e u5 ⟨hbn, v, rfl, hv⟩; rw [hV.out] at hv; obtain ⟨s5, rfl, hs⟩ := hv; have HB6 := Lib.hid (show Below w.heap.size w u5 from by first | exact below_call0 HB5.out hbn | exact below_call_drew0 HB5.out hbn); clear HB5; have ha_5 := Lib.hid (RI.step (by first | exact ha_4.out | exact RI.drew1 ha_4.out) hbn); clear ha_4; have hb_5 := Lib.hid (RI.step (by first | exact hb_4.out | exact RI.drew1 hb_4.out) hbn); clear hb_4; have hx_5 := Lib.hid (RW.step (by first | exact hx_4.out | exact RW.drew1 hx_4.out) hbn); clear hx_4; have hy_5 := Lib.hid (RW.step (by first | exact hy_4.out | exact RW.drew1 hy_4.out) hbn); clear hy_4; have s0_5 := Lib.hid (RI.step (by first | exact s0_4.out | exact RI.drew1 s0_4.out) hbn); clear s0_4; have s1_5 := Lib.hid (RI.step (by first | exact s1_4.out | exact RI.drew1 s1_4.out) hbn); clear s1_4; have s2_5 := Lib.hid (RI.step (by first | exact s2_4.out | exact RI.drew1 s2_4.out) hbn); clear s2_4; have s3_5 := Lib.hid (RI.step (by first | exact s3_4.out | exact RI.drew1 s3_4.out) hbn); clear s3_4; have s4_5 := Lib.hid (RI.step (by first | exact S4.out | exact RI.drew1 S4.out) hbn); clear S4; have S5 := Lib.hid hs; clear hs; have B6 := CB.step (t := 29) (cs := #[.bool na, sa, .bool nb, sb, .bool nx, .int .u8 lx, wx, .bool ny, .int .u8 ly, wy]) (b := w.heap.size) (by first | exact B5 | exact CB.drew B5) hbn; clear B5 hbn; clear q0_4 q1_4 q2_4 q3_4 q4_4 q5_4 q6_4 q7_4 q8_4 q9_4; have q0_5 := B6.cell 0 rfl; have q1_5 := B6.cell 1 rfl; have q2_5 := B6.cell 2 rfl; have q3_5 := B6.cell 3 rfl; have q4_5 := B6.cell 4 rfl; have q5_5 := B6.cell 5 rfl; have q6_5 := B6.cell 6 rfl; have q7_5 := B6.cell 7 rfl; have q8_5 := B6.cell 8 rfl; have q9_5 := B6.cell 9 rfl))
    | (go_at_call 28; clear tok6; ((with_reducible refine (Short_any _ nx lx _ dx hx0 hx1 (by first | exact hx_5.out | exact RW.drew1 hx_5.out)).mono ?_); rintro e u6 ⟨hbn, v, rfl, hv⟩; rw [hU.out] at hv; obtain ⟨s6, rfl, hs⟩ := hv; have HB7 := Lib.hid (show Below w.heap.size w u6 from by first | exact below_call0 HB6.out hbn | exact below_call_drew0 HB6.out hbn); clear HB6; have ha_6 := Lib.hid (RI.step (by first | exact ha_5.out | exact RI.drew1 ha_5.out) hbn); clear ha_5; have hb_6 := Lib.hid (RI.step (by first | exact hb_5.out | exact RI.drew1 hb_5.out) hbn); clear hb_5; have hx_6 := Lib.hid (RW.step (by first | exact hx_5.out | exact RW.drew1 hx_5.out) hbn); clear hx_5; have hy_6 := Lib.hid (RW.step (by first | exact hy_5.out | exact RW.drew1 hy_5.out) hbn); clear hy_5; have s0_6 := Lib.hid (RI.step (by first | exact s0_5.out | exact RI.drew1 s0_5.out) hbn); clear s0_5; have s1_6 := Lib.hid (RI.step (by first | exact s1_5.out | exact RI.drew1 s1_5.out) hbn); clear s1_5; have s2_6 := Lib.hid (RI.step (by first | exact s2_5.out | exact RI.drew1 s2_5.out) hbn); clear s2_5; have s3_6 := Lib.hid (RI.step (by first | exact s3_5.out | exact RI.drew1 s3_5.out) hbn); clear s3_5; have s4_6 := Lib.hid (RI.step (by first | exact s4_5.out | exact RI.drew1 s4_5.out) hbn); clear s4_5; have s5_6 := Lib.hid (RI.step (by first | exact S5.out | exact RI.drew1 S5.out) hbn); clear S5; have S6 := Lib.hid hs; clear hs; have B7 := CB.step (t := 29) (cs := #[.bool na, sa, .bool nb, sb, .bool nx, .int .u8 lx, wx, .bool ny, .int .u8 ly, wy]) (b := w.heap.size) (by first | exact B6 | exact CB.drew B6) hbn; clear B6 hbn; clear q0_5 q1_5 q2_5 q3_5 q4_5 q5_5 q6_5 q7_5 q8_5 q9_5; have q0_6 := B7.cell 0 rfl; have q1_6 := B7.cell 1 rfl; have q2_6 := B7.cell 2 rfl; have q3_6 := B7.cell 3 rfl; have q4_6 := B7.cell 4 rfl; have q5_6 := B7.cell 5 rfl; have q6_6 := B7.cell 6 rfl; have q7_6 := B7.cell 7 rfl; have q8_6 := B7.cell 8 rfl; have q9_6 := B7.cell 9 rfl))
    | (go_at_call 18; clear tok7; ((with_reducible refine (own_any _ _ nb _ (LR.of (by first | exact hb_6.out | exact RI.drew1 hb_6.out))).mono ?_); rintro e u7 ⟨hbn, v, rfl, s7, rfl, hs⟩; have HB8 := Lib.hid (show Below w.heap.size w u7 from by first | exact below_call0 HB7.out hbn | exact below_call_drew0 HB7.out hbn); clear HB7; have ha_7 := Lib.hid (RI.step (by first | exact ha_6.out | exact RI.drew1 ha_6.out) hbn); clear ha_6; have hb_7 := Lib.hid (RI.step (by first | exact hb_6.out | exact RI.drew1 hb_6.out) hbn); clear hb_6; have hx_7 := Lib.hid (RW.step (by first | exact hx_6.out | exact RW.drew1 hx_6.out) hbn); clear hx_6; have hy_7 := Lib.hid (RW.step (by first | exact hy_6.out | exact RW.drew1 hy_6.out) hbn); clear hy_6; have s0_7 := Lib.hid (RI.step (by first | exact s0_6.out | exact RI.drew1 s0_6.out) hbn); clear s0_6; have s1_7 := Lib.hid (RI.step (by first | exact s1_6.out | exact RI.drew1 s1_6.out) hbn); clear s1_6; have s2_7 := Lib.hid (RI.step (by first | exact s2_6.out | exact RI.drew1 s2_6.out) hbn); clear s2_6; have s3_7 := Lib.hid (RI.step (by first | exact s3_6.out | exact RI.drew1 s3_6.out) hbn); clear s3_6; have s4_7 := Lib.hid (RI.step (by first | exact s4_6.out | exact RI.drew1 s4_6.out) hbn); clear s4_6; have s5_7 := Lib.hid (RI.step (by first | exact s5_6.out | exact RI.drew1 s5_6.out) hbn); clear s5_6; have s6_7 := Lib.hid (RI.step (by first | exact S6.out | exact RI.drew1 S6.out) hbn); clear S6; have S7 := Lib.hid hs; clear hs; have B8 := CB.step (t := 29) (cs := #[.bool na, sa, .bool nb, sb, .bool nx, .int .u8 lx, wx, .bool ny, .int .u8 ly, wy]) (b := w.heap.size) (by first | exact B7 | exact CB.drew B7) hbn; clear B7 hbn; clear q0_6 q1_6 q2_6 q3_6 q4_6 q5_6 q6_6 q7_6 q8_6 q9_6; have q0_7 := B8.cell 0 rfl; have q1_7 := B8.cell 1 rfl; have q2_7 := B8.cell 2 rfl; have q3_7 := B8.cell 3 rfl; have q4_7 := B8.cell 4 rfl; have q5_7 := B8.cell 5 rfl; have q6_7 := B8.cell 6 rfl; have q7_7 := B8.cell 7 rfl; have q8_7 := B8.cell 8 rfl; have q9_7 := B8.cell 9 rfl)))
  all_goals (go_wp2; go_ret; refine ⟨HB8.out.alloc HB8.out.size _, u7.heap.size, s0, s1, s2, s3, s4, s5, s6, s7, rfl, HB8.out.size, CB.new _ _ _, RI.drew2 s0_7.out _, RI.drew2 s1_7.out _, RI.drew2 s2_7.out _, RI.drew2 s3_7.out _, RI.drew2 s4_7.out _, RI.drew2 s5_7.out _, RI.drew2 s6_7.out _, RI.drew2 S7.out _⟩)
theorem Pairs.step {w w' : World} {g : Nat} {na nb : Bool} {la lb : List Int} {X Y V U : Int} {s0 s1 s2 s3 s4 s5 s6 s7 : Value} (h : Pairs w g na nb la lb X Y V U s0 s1 s2 s3 s4 s5 s6 s7) (hb : Below w.heap.size w w') : Pairs w' g na nb la lb X Y V U s0 s1 s2 s3 s4 s5 s6 s7 :=
  ⟨h.block.step hb, h.r0.step hb, h.r1.step hb, h.r2.step hb, h.r3.step hb, h.r4.step hb, h.r5.step hb, h.r6.step hb, h.r7.step hb⟩
/-- The two middle pairs are valid. -/
theorem Pairs.mid {w : World} {g : Nat} {na nb : Bool} {la lb : List Int} {X Y V U : Int} {s0 s1 s2 s3 s4 s5 s6 s7 : Value} (h : Pairs w g na nb la lb X Y V U s0 s1 s2 s3 s4 s5 s6 s7) (k : Nat) (hk : k < 2) :
    ∃ Q A c A' c', (Q = Y ∨ Q = V) ∧ w.cell? ⟨g, 4 + k * 4, none⟩ = some (.bool (decide (X < 0))) ∧ w.cell? ⟨g, 4 + k * 4 + 1, none⟩ = some (.slice A (dig X.natAbs).length c) ∧
      w.cell? ⟨g, 4 + k * 4 + 2, none⟩ = some (.bool (decide (Q < 0))) ∧ w.cell? ⟨g, 4 + k * 4 + 3, none⟩ = some (.slice A' (dig Q.natAbs).length c') ∧
      LV w w.heap.size (.agg #[.bool (decide (X < 0)), .slice A (dig X.natAbs).length c]) X ∧ LV w w.heap.size (.agg #[.bool (decide (Q < 0)), .slice A' (dig Q.natAbs).length c']) Q := by
  have hk' : k = 0 ∨ k = 1 := by omega
  rcases hk' with rfl | rfl
  · obtain ⟨A, c, e, hA⟩ := LV.parts (show LV w w.heap.size (.agg #[.bool (decide (X < 0)), s2]) X from LR.of h.r2)
    obtain ⟨A', c', e', hA'⟩ := LV.parts (show LV w w.heap.size (.agg #[.bool (decide (Y < 0)), s3]) Y from LR.of h.r3)
    injection e with e; injection e' with e'
    simp at e e'
    exact ⟨Y, A, c, A', c', .inl rfl, h.block.cell 4 rfl, h.block.cell 5 (by rw [← e]; rfl), h.block.cell 6 rfl, h.block.cell 7 (by rw [← e']; rfl), LR.of hA, LR.of hA'⟩
  · obtain ⟨A, c, e, hA⟩ := LV.parts (show LV w w.heap.size (.agg #[.bool (decide (X < 0)), s4]) X from LR.of h.r4)
    obtain ⟨A', c', e', hA'⟩ := LV.parts (show LV w w.heap.size (.agg #[.bool (decide (V < 0)), s5]) V from LR.of h.r5)
    injection e with e; injection e' with e'
    simp at e e'
    exact ⟨V, A, c, A', c', .inr rfl, h.block.cell 8 rfl, h.block.cell 9 (by rw [← e]; rfl), h.block.cell 10 rfl, h.block.cell 11 (by rw [← e']; rfl), LR.of hA, LR.of hA'⟩

end Go.Proofs.YtnbanlmkoljghaaGreatDoor

/- All four pairs; divisions of Longs that are not valid; the sign of a rest. -/
namespace Go.Proofs.YtnbanlmkoljghaaGreatDoor
open Go Go.RowKit Dig

theorem ni_len (l : List Nat) : (ni l).length = l.length := by simp [ni]
/-- Any of the four pairs: its cells, and what they read as. -/
theorem Pairs.any {w : World} {g : Nat} {na nb : Bool} {la lb : List Int} {X Y V U : Int} {s0 s1 s2 s3 s4 s5 s6 s7 : Value} (h : Pairs w g na nb la lb X Y V U s0 s1 s2 s3 s4 s5 s6 s7) (k : Nat) (hk : k < 4) :
    ∃ n1 l1 A1 c1 n2 l2 A2 c2, w.cell? ⟨g, k * 4, none⟩ = some (.bool n1) ∧ w.cell? ⟨g, k * 4 + 1, none⟩ = some (.slice A1 (List.length l1) c1) ∧ w.cell? ⟨g, k * 4 + 2, none⟩ = some (.bool n2) ∧ w.cell? ⟨g, k * 4 + 3, none⟩ = some (.slice A2 (List.length l2) c2) ∧
      LR w w.heap.size (.agg #[.bool n1, .slice A1 l1.length c1]) n1 l1 ∧ LR w w.heap.size (.agg #[.bool n2, .slice A2 l2.length c2]) n2 l2 := by
  have key : ∀ {s t : Value} {n m : Bool} {l l' : List Int} {i : Nat}, RI w w.heap.size s l → RI w w.heap.size t l' → w.cell? ⟨g, i, none⟩ = some (.bool n) → w.cell? ⟨g, i + 1, none⟩ = some s → w.cell? ⟨g, i + 2, none⟩ = some (.bool m) → w.cell? ⟨g, i + 3, none⟩ = some t →
      ∃ n1 l1 A1 c1 n2 l2 A2 c2, w.cell? ⟨g, i, none⟩ = some (.bool n1) ∧ w.cell? ⟨g, i + 1, none⟩ = some (.slice A1 (List.length l1) c1) ∧ w.cell? ⟨g, i + 2, none⟩ = some (.bool n2) ∧ w.cell? ⟨g, i + 3, none⟩ = some (.slice A2 (List.length l2) c2) ∧
      LR w w.heap.size (.agg #[.bool n1, .slice A1 l1.length c1]) n1 l1 ∧ LR w w.heap.size (.agg #[.bool n2, .slice A2 l2.length c2]) n2 l2 := by
    intro s t n m l l' i hs ht e0 e1 e2 e3
    obtain ⟨A, c, rfl, -⟩ := hs.at
    obtain ⟨A', c', rfl, -⟩ := ht.at
    exact ⟨n, l, A, c, m, l', A', c', e0, e1, e2, e3, ⟨_, rfl, hs⟩, ⟨_, rfl, ht⟩⟩
  have hk' : k = 0 ∨ k = 1 ∨ k = 2 ∨ k = 3 := by omega
  rcases hk' with rfl | rfl | rfl | rfl
  · exact key h.r0 h.r1 (h.block.cell 0 rfl) (h.block.cell 1 rfl) (h.block.cell 2 rfl) (h.block.cell 3 rfl)
  · exact key h.r2 h.r3 (h.block.cell 4 rfl) (h.block.cell 5 rfl) (h.block.cell 6 rfl) (h.block.cell 7 rfl)
  · exact key h.r4 h.r5 (h.block.cell 8 rfl) (h.block.cell 9 rfl) (h.block.cell 10 rfl) (h.block.cell 11 rfl)
  · exact key h.r6 h.r7 (h.block.cell 12 rfl) (h.block.cell 13 rfl) (h.block.cell 14 rfl) (h.block.cell 15 rfl)
theorem Div_bad {w : World} {va vb : Value} {na nb : Bool} {la lb : List Int} {Z : Int} (hZ : Z = 0) (ha : LR w w.heap.size va na la) (hb : LR w w.heap.size vb nb lb) (h : ¬ (Valid na la ∧ Valid nb lb)) :
    Calls Tryz.prog 22 #[va, vb] w fun e w' => Below w.heap.size w w' ∧ ∃ v u, e = .returned (.tuple #[v, u, .int .i64 30]) ∧ LV w' w'.heap.size v Z ∧ LV w' w'.heap.size u Z := by
  subst hZ
  refine (Div_any w va vb _ _ _ _ ha hb).mono fun e w' ⟨hw, he⟩ => ⟨hw, ?_⟩
  rw [D2_bad h] at he
  exact he
theorem Div_zero {w : World} {va vb : Value} {a b Z : Int} (hZ : Z = 0) (ha : LV w w.heap.size va a) (hb : LV w w.heap.size vb b) (fa : Fit a) (h0 : b = 0) :
    Calls Tryz.prog 22 #[va, vb] w fun e w' => Below w.heap.size w w' ∧ ∃ v u, e = .returned (.tuple #[v, u, .int .i64 7]) ∧ LV w' w'.heap.size v Z ∧ LV w' w'.heap.size u Z := by
  subst hZ
  exact Div_none ha hb fa h0
theorem Check_good {w : World} {v : Value} {n : Bool} {l : List Int} (h : LR w w.heap.size v n l) (hv : Valid n l) :
    Calls Tryz.prog 54 #[v] w fun e w' => Below w.heap.size w w' ∧ e = .returned (.int .i64 0) := by
  refine (Check_any w v _ _ h).mono fun e w' ⟨hw, c, he, hc⟩ => ⟨hw, ?_⟩
  rcases hc with ⟨_, hc⟩ | ⟨hn, _⟩
  · rw [he, hc]
  · exact absurd hv hn
theorem Check_bad {w : World} {v : Value} {n : Bool} {l : List Int} (h : LR w w.heap.size v n l) (hv : ¬ Valid n l) :
    Calls Tryz.prog 54 #[v] w fun e w' => Below w.heap.size w w' ∧ e = .returned (.int .i64 30) := by
  refine (Check_any w v _ _ h).mono fun e w' ⟨hw, c, he, hc⟩ => ⟨hw, ?_⟩
  rcases hc with ⟨hn, _⟩ | ⟨_, hc⟩
  · exact absurd hn hv
  · rw [he, hc]
theorem tdiv_mul_le (a b : Int) : (Int.tdiv a b * b).natAbs ≤ a.natAbs := by
  rw [Int.natAbs_mul, Int.natAbs_tdiv]; exact Nat.div_mul_le_self _ _
theorem tmod_sgn (a b : Int) (h : Int.tmod a b ≠ 0) : decide (Int.tmod a b < 0) = decide (a < 0) := by
  by_cases ha : a < 0
  · have h1 : Int.tmod a b ≤ 0 := by
      have h2 : 0 ≤ Int.tmod (-a) b := Int.tmod_nonneg b (by omega)
      rw [Int.neg_tmod] at h2; omega
    rw [decide_eq_true ha, decide_eq_true (by omega)]
  · have h1 : 0 ≤ Int.tmod a b := Int.tmod_nonneg b (by omega)
    rw [decide_eq_false ha, decide_eq_false (by omega)]
theorem cmp_low {a b : Int} (h : a < b) : (cmpZ a b).1 = -1 := by
  unfold cmpZ; dsimp only; rw [if_pos h]
end Go.Proofs.YtnbanlmkoljghaaGreatDoor

/- All four pairs, each list of at most 60 entries; own gives the same list back. -/
namespace Go.Proofs.YtnbanlmkoljghaaGreatDoor
open Go Go.RowKit Dig

theorem Pairs.any60 {w : World} {g : Nat} {na nb : Bool} {la lb : List Int} {X Y V U : Int} {s0 s1 s2 s3 s4 s5 s6 s7 : Value} (h : Pairs w g na nb la lb X Y V U s0 s1 s2 s3 s4 s5 s6 s7) (hX : Len 60 X) (hY : Len 60 Y) (hV : Len 60 V) (hU : Len 60 U) (k : Nat) (hk : k < 4) :
    ∃ n1 l1 A1 c1 n2 l2 A2 c2, w.cell? ⟨g, k * 4, none⟩ = some (.bool n1) ∧ w.cell? ⟨g, k * 4 + 1, none⟩ = some (.slice A1 (List.length l1) c1) ∧ w.cell? ⟨g, k * 4 + 2, none⟩ = some (.bool n2) ∧ w.cell? ⟨g, k * 4 + 3, none⟩ = some (.slice A2 (List.length l2) c2) ∧
      LR w w.heap.size (.agg #[.bool n1, .slice A1 l1.length c1]) n1 l1 ∧ LR w w.heap.size (.agg #[.bool n2, .slice A2 l2.length c2]) n2 l2 ∧ l1.length ≤ 60 ∧ l2.length ≤ 60 := by
  have key : ∀ {s t : Value} {n m : Bool} {l l' : List Int} {i : Nat}, RI w w.heap.size s l → RI w w.heap.size t l' → l.length ≤ 60 → l'.length ≤ 60 → w.cell? ⟨g, i, none⟩ = some (.bool n) → w.cell? ⟨g, i + 1, none⟩ = some s → w.cell? ⟨g, i + 2, none⟩ = some (.bool m) → w.cell? ⟨g, i + 3, none⟩ = some t →
      ∃ n1 l1 A1 c1 n2 l2 A2 c2, w.cell? ⟨g, i, none⟩ = some (.bool n1) ∧ w.cell? ⟨g, i + 1, none⟩ = some (.slice A1 (List.length l1) c1) ∧ w.cell? ⟨g, i + 2, none⟩ = some (.bool n2) ∧ w.cell? ⟨g, i + 3, none⟩ = some (.slice A2 (List.length l2) c2) ∧
      LR w w.heap.size (.agg #[.bool n1, .slice A1 l1.length c1]) n1 l1 ∧ LR w w.heap.size (.agg #[.bool n2, .slice A2 l2.length c2]) n2 l2 ∧ l1.length ≤ 60 ∧ l2.length ≤ 60 := by
    intro s t n m l l' i hs ht h1 h2 e0 e1 e2 e3
    obtain ⟨A, c, rfl, -⟩ := hs.at
    obtain ⟨A', c', rfl, -⟩ := ht.at
    exact ⟨n, l, A, c, m, l', A', c', e0, e1, e2, e3, ⟨_, rfl, hs⟩, ⟨_, rfl, ht⟩, h1, h2⟩
  have t60 : ∀ l : List Int, (l.take 60).length ≤ 60 := fun l => by rw [List.length_take]; omega
  have d60 : ∀ {z : Int}, Len 60 z → (ni (dig z.natAbs)).length ≤ 60 := fun h => by rw [ni_len]; exact h
  have hk' : k = 0 ∨ k = 1 ∨ k = 2 ∨ k = 3 := by omega
  rcases hk' with rfl | rfl | rfl | rfl
  · exact key h.r0 h.r1 (t60 _) (t60 _) (h.block.cell 0 rfl) (h.block.cell 1 rfl) (h.block.cell 2 rfl) (h.block.cell 3 rfl)
  · exact key h.r2 h.r3 (d60 hX) (d60 hY) (h.block.cell 4 rfl) (h.block.cell 5 rfl) (h.block.cell 6 rfl) (h.block.cell 7 rfl)
  · exact key h.r4 h.r5 (d60 hX) (d60 hV) (h.block.cell 8 rfl) (h.block.cell 9 rfl) (h.block.cell 10 rfl) (h.block.cell 11 rfl)
  · exact key h.r6 h.r7 (d60 hU) (t60 _) (h.block.cell 12 rfl) (h.block.cell 13 rfl) (h.block.cell 14 rfl) (h.block.cell 15 rfl)
/-- own of a Long of at most 60 entries: a Long that reads the same. -/
theorem own60 {w : World} {v : Value} {n : Bool} {l : List Int} (h : LR w w.heap.size v n l) (hl : l.length ≤ 60) :
    Calls Tryz.prog 18 #[v] w fun e w' => Below w.heap.size w w' ∧ ∃ A c, e = .returned (.agg #[.bool n, .slice A l.length c]) ∧ LR w' w'.heap.size (.agg #[.bool n, .slice A l.length c]) n l := by
  refine (own_any w v n l h).mono ?_
  rintro e w' ⟨hw, v', rfl, hv⟩
  rw [List.take_of_length_le hl] at hv
  obtain ⟨s, rfl, hs⟩ := hv
  obtain ⟨A, c, rfl, -⟩ := hs.at
  exact ⟨hw, A, c, rfl, _, rfl, hs⟩
end Go.Proofs.YtnbanlmkoljghaaGreatDoor
