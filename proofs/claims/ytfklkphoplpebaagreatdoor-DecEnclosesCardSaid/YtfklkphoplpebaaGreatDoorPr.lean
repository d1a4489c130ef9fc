/- Texts put together: Drafts of Longs: Draft.Long, Draft.Short of the reference; size of the law package (written by gen_draft.py). The law package's own: a row of at most 60 places, of its own. The law package's pairs of a Two (written by gen_pairs.py). All four pairs; divisions of Longs that are not valid; the sign of a rest. All four pairs, each list of at most 60 entries; own gives the same list back. -/
import Derived.Test.YtfklkphoplpebaaGreatDoorOps
import Derived.Test.YtfklkphoplpebaaGreatDoorLow
import Derived.Test.YtfklkphoplpebaaGreatDoorDec
import Derived.Deep.RegionHeld3
/- Drafts of Longs: Draft.Long, Draft.Short of the reference; size of the law package (written by gen_draft.py). -/
namespace Go.Proofs.YtfklkphoplpebaaGreatDoor
open Go Go.RowKit Dig

/-- The slice value v reads as the words l (of 32 bits), below block B. -/
def RW (w : World) (B : Nat) (v : Value) (l : List Nat) : Prop :=
  ∃ A c, v = .slice A l.length c ∧ l.length ≤ c ∧ c ≤ 9223372036854775807 ∧ (∀ d ∈ l, d < 4294967296) ∧ (0 < l.length → ∃ g off, A = some ⟨g, off, none⟩ ∧ g < B ∧ ∀ j (h : j < l.length), w.cell? ⟨g, off + j, none⟩ = some (.int .u32 (l[j] : Nat)))
theorem RW.step {w w' : World} {v : Value} {l : List Nat} (h : RW w w.heap.size v l) (hb : Below w.heap.size w w') : RW w' w'.heap.size v l := by
  obtain ⟨A, c, hv, hc, hm, hs, h0⟩ := h
  refine ⟨A, c, hv, hc, hm, hs, fun hn => ?_⟩
  obtain ⟨g, off, hA, hg, hx⟩ := h0 hn
  exact ⟨g, off, hA, Nat.lt_of_lt_of_le hg hb.size, fun j hj => (hb.cell (p := ⟨g, off + j, none⟩) hg).trans (hx j hj)⟩
/-- The digits of a draft. -/
def draftDs (n k : Nat) (ws : List Nat) : List Nat := List.replicate n 0 ++ (ws.take k).map (· % 1000000000)
theorem draft_small (n k : Nat) (ws : List Nat) : Small (draftDs n k ws) := (Small.replicate n).append fun d hd => by
  obtain ⟨x, _, rfl⟩ := List.mem_map.1 hd
  exact Nat.mod_lt _ (by omega)
theorem draft_len (n k : Nat) (ws : List Nat) : (draftDs n k ws).length ≤ n + k := by unfold draftDs; simp; omega
theorem draft_next (n k : Nat) (ws : List Nat) (h : k < ws.length) : draftDs n (k + 1) ws = draftDs n k ws ++ [ws[k] % 1000000000] := by
  unfold draftDs
  rw [List.take_succ_eq_append_getElem h, List.map_append, List.append_assoc]; rfl
theorem draft_fit {neg : Bool} {n k m : Nat} {ws : List Nat} (h : n + k ≤ m) : (dig (sgn neg (val (draftDs n k ws))).natAbs).length ≤ m := by
  rw [sgn_nat, dig_len_le]
  exact Nat.lt_of_lt_of_le (val_lt (draft_small n k ws)) (bp_le (Nat.le_trans (draft_len n k ws) h))
theorem OwnV.make (w : World) (base n : Nat) (hb : base ≤ w.heap.size) (hn : n ≤ 1000000) : OwnV (w.alloc (zerosObj n)) base (.slice (some ⟨w.heap.size, 0, none⟩) n n) (ni (List.replicate n 0)) := by
  refine ⟨by simp [ni], .inr ⟨w.heap.size, n, ((List.replicate n (0 : Int)).map (Value.int .i64)).toArray, ?_, hb, heap_alloc_new w _, by simp [ni], by unfold maxLen; omega, by simp, ?_⟩⟩
  · simp [ni]
  · simp [ni]
theorem mk_low (low : Int) (h0 : 0 ≤ low) (w : World) : (Instr.makeSlice 64 (.int .u8 (low % 8)) (.int .u8 (low % 8))).run Tryz.prog w =
    .ok (.slice (some ⟨w.heap.size, 0, none⟩) (low.toNat % 8) (low.toNat % 8)) (w.alloc (zerosObj (low.toNat % 8))) := by
  obtain ⟨n, hn⟩ : ∃ n : Nat, low.toNat % 8 = n := ⟨_, rfl⟩
  have e : low % 8 = (n : Int) := by omega
  have hle : n < 8 := by omega
  rw [hn, e]
  obtain ⟨i, hi, hz, hs, hb⟩ := info_parts info_int
  have h := run_make (P := Tryz.prog) w 64 3 i (.int .i64 0) Tryz.underlying64 hi hz .u8 .u8 n n (by omega) (by omega) (by rw [hb]; omega) (by omega)
  rw [h, hs]
  show _ = Result.ok _ (w.alloc (.cells _ _ _))
  rw [← cells_madeInt]
  simp [Value.cells]

end Go.Proofs.YtfklkphoplpebaaGreatDoor

/- The law package's own: a row of at most 60 places, of its own. -/
namespace Go.Proofs.YtfklkphoplpebaaGreatDoor
open Go Go.RowKit Dig

end Go.Proofs.YtfklkphoplpebaaGreatDoor

/- The law package's pairs of a Two (written by gen_pairs.py). -/
namespace Go.Proofs.YtfklkphoplpebaaGreatDoor
open Go Go.RowKit Dig

theorem RW.drew1 {w : World} {v : Value} {l : List Nat} (h : RW w w.heap.size v l) : RW w.drew w.drew.heap.size v l := h
end Go.Proofs.YtfklkphoplpebaaGreatDoor

/- All four pairs; divisions of Longs that are not valid; the sign of a rest. -/
namespace Go.Proofs.YtfklkphoplpebaaGreatDoor
open Go Go.RowKit Dig

theorem ni_len (l : List Nat) : (ni l).length = l.length := by simp [ni]
theorem Div_bad {w : World} {va vb : Value} {na nb : Bool} {la lb : List Int} {Z : Int} (hZ : Z = 0) (ha : LR w w.heap.size va na la) (hb : LR w w.heap.size vb nb lb) (h : ¬ (Valid na la ∧ Valid nb lb)) :
    Calls Tryz.prog 97 #[va, vb] w fun e w' => Below w.heap.size w w' ∧ ∃ v u, e = .returned (.tuple #[v, u, .int .i64 30]) ∧ LV w' w'.heap.size v Z ∧ LV w' w'.heap.size u Z := by
  subst hZ
  refine (Div_any w va vb _ _ _ _ ha hb).mono fun e w' ⟨hw, he⟩ => ⟨hw, ?_⟩
  rw [D2_bad h] at he
  exact he
theorem Div_zero {w : World} {va vb : Value} {a b Z : Int} (hZ : Z = 0) (ha : LV w w.heap.size va a) (hb : LV w w.heap.size vb b) (fa : Fit a) (h0 : b = 0) :
    Calls Tryz.prog 97 #[va, vb] w fun e w' => Below w.heap.size w w' ∧ ∃ v u, e = .returned (.tuple #[v, u, .int .i64 7]) ∧ LV w' w'.heap.size v Z ∧ LV w' w'.heap.size u Z := by
  subst hZ
  exact Div_none ha hb fa h0
theorem Check_good {w : World} {v : Value} {n : Bool} {l : List Int} (h : LR w w.heap.size v n l) (hv : Valid n l) :
    Calls Tryz.prog 129 #[v] w fun e w' => Below w.heap.size w w' ∧ e = .returned (.int .i64 0) := by
  refine (Check_any w v _ _ h).mono fun e w' ⟨hw, c, he, hc⟩ => ⟨hw, ?_⟩
  rcases hc with ⟨_, hc⟩ | ⟨hn, _⟩
  · rw [he, hc]
  · exact absurd hv hn
theorem Check_bad {w : World} {v : Value} {n : Bool} {l : List Int} (h : LR w w.heap.size v n l) (hv : ¬ Valid n l) :
    Calls Tryz.prog 129 #[v] w fun e w' => Below w.heap.size w w' ∧ e = .returned (.int .i64 30) := by
  refine (Check_any w v _ _ h).mono fun e w' ⟨hw, c, he, hc⟩ => ⟨hw, ?_⟩
  rcases hc with ⟨hn, _⟩ | ⟨_, hc⟩
  · exact absurd hn hv
  · rw [he, hc]
theorem tdiv_mul_le (a b : Int) : (Int.tdiv a b * b).natAbs ≤ a.natAbs := by
  rw [Int.natAbs_mul, Int.natAbs_tdiv]; exact Nat.div_mul_le_self _ _
theorem tmod_sgn (a b : Int) (h : Int.tmod a b ≠ 0) : decide (Int.tmod a b < 0) = decide (a < 0) := by
  by_cases ha : a < 0
  · have h1 : Int.tmod a b ≤ 0 := by
      have h2 : 0 ≤ Int.tmod (-a) b := Int.tmod_nonneg b (by omega)
      rw [Int.neg_tmod] at h2; omega
    rw [decide_eq_true ha, decide_eq_true (by omega)]
  · have h1 : 0 ≤ Int.tmod a b := Int.tmod_nonneg b (by omega)
    rw [decide_eq_false ha, decide_eq_false (by omega)]
theorem cmp_low {a b : Int} (h : a < b) : (cmpZ a b).1 = -1 := by
  unfold cmpZ; dsimp only; rw [if_pos h]
end Go.Proofs.YtfklkphoplpebaaGreatDoor

/- All four pairs, each list of at most 60 entries; own gives the same list back. -/
namespace Go.Proofs.YtfklkphoplpebaaGreatDoor
open Go Go.RowKit Dig

end Go.Proofs.YtfklkphoplpebaaGreatDoor
