/- dec's functions at literals; the law package's is, fails, says, refuses in the form that a walk wants. -/
import Derived.Test.YtfklkphoplpebaaGreatDoorDecE
namespace Go.Proofs.YtfklkphoplpebaaGreatDoor
open Go Go.RowKit Dig

theorem textD_lit {n d : Int} {s : List UInt8} (k : Nat) (h : (decide (0 ≤ d) && decide (d ≤ 18) && (shpB s && decide (plc s + k = d.toNat) && decide (numS s * (10 ^ k : Nat) = n))) = true) : textD n d = (s, 0) := by
  simp only [Bool.and_eq_true] at h
  unfold textD
  rw [if_pos ⟨of_decide_eq_true h.1.1, of_decide_eq_true h.1.2⟩, decT_lit (n := n) (d := d.toNat) (s := s) k (by simp only [Bool.and_eq_true]; exact h.2)]
theorem textD_bad {n d : Int} (h : decide (0 ≤ d ∧ d ≤ 18) = false) : textD n d = ([], 2) := by unfold textD; rw [if_neg (of_decide_eq_false h)]
theorem parseD_lit {s : List UInt8} {d : Int} {r : Int × Int} (h : (if 0 ≤ d ∧ d ≤ 18 then (if d.toNat < plc s then ((0 : Int), (5 : Int)) else if shpB s then intZ (numS s * (10 ^ (d.toNat - plc s) : Nat)) else (0, 5)) else (0, 2)) = r) : parseD s d = r := by
  unfold parseD
  rw [← h, decP_eq]
theorem fixedD_lit {v d : Int} {up : Bool} {s : List UInt8} (k : Nat) (h : (decide (fixOk v ∧ 0 ≤ d ∧ d ≤ 12) && (shpB s && decide (plc s + k = d.toNat) && decide (numS s * (10 ^ k : Nat) = rndZ v d.toNat up))) = true) : fixedD v d up = (s, 0) := by
  obtain ⟨h1, h2⟩ := Bool.and_eq_true_iff.1 h
  unfold fixedD
  rw [if_pos (of_decide_eq_true h1), decT_lit (n := rndZ v d.toNat up) (d := d.toNat) (s := s) k h2]
theorem fixedD_bad {v d : Int} {up : Bool} (h : decide (fixOk v ∧ 0 ≤ d ∧ d ≤ 12) = false) : fixedD v d up = ([], 2) := by unfold fixedD; rw [if_neg (of_decide_eq_false h)]
theorem bothD_lit {lo hi d : Int} {s t : List UInt8} (j k : Nat) (h : (decide (spanOk lo hi) && decide (0 ≤ d ∧ d ≤ 12) && (shpB s && decide (plc s + j = d.toNat) && decide (numS s * (10 ^ j : Nat) = rndZ lo d.toNat false)) && (shpB t && decide (plc t + k = d.toNat) && decide (numS t * (10 ^ k : Nat) = rndZ hi d.toNat true))) = true) : bothD lo hi d = ([91] ++ s ++ [44, 32] ++ t ++ [93], 0) := by
  obtain ⟨h, h4⟩ := Bool.and_eq_true_iff.1 h
  obtain ⟨h, h3⟩ := Bool.and_eq_true_iff.1 h
  obtain ⟨h1, h2⟩ := Bool.and_eq_true_iff.1 h
  unfold bothD
  rw [if_pos (of_decide_eq_true h1), if_pos (of_decide_eq_true h2)]
  unfold bothT
  rw [decT_lit (n := rndZ lo d.toNat false) (d := d.toNat) (s := s) j h3, decT_lit (n := rndZ hi d.toNat true) (d := d.toNat) (s := t) k h4]
theorem bothD_bad {lo hi d : Int} {c : Int} (h : decide ((¬ spanOk lo hi ∧ c = 20) ∨ (spanOk lo hi ∧ ¬ (0 ≤ d ∧ d ≤ 12) ∧ c = 2)) = true) : bothD lo hi d = ([], c) := by
  unfold bothD
  rcases of_decide_eq_true h with ⟨h1, h2⟩ | ⟨h1, h2, h3⟩
  · rw [if_neg h1, h2]
  · rw [if_pos h1, if_neg h2, h3]
section
variable {w : World} {l : List UInt8} {c : Int}
theorem AnsS.lit {r : List UInt8 × Int} {e : Ending} (h : AnsS r e) (hr : r = (l, c)) : ∃ t : ByteArray, e = .returned (.tuple #[.string t, .int .i64 c]) ∧ t.data.toList = l := by subst hr; exact h
theorem DText_lit {n d : Int} (h : textD n d = (l, c)) (h0 : -9223372036854775808 ≤ n) (h1 : n ≤ 9223372036854775807) (hd0 : -9223372036854775808 ≤ d) (hd1 : d ≤ 9223372036854775807) (G : Glob w) :
    Calls Tryz.prog 12 #[.int .i64 n, .int .i64 d] w fun e w' => Below w.heap.size w w' ∧ ∃ t : ByteArray, e = .returned (.tuple #[.string t, .int .i64 c]) ∧ t.data.toList = l :=
  (DText_any w n d h0 h1 hd0 hd1 G).mono fun _ _ ⟨hb, k⟩ => ⟨hb, AnsS.lit k h⟩
theorem DFixed_lit {v d : Int} {up : Bool} (h : fixedD v d up = (l, c)) (G : Glob w) :
    Calls Tryz.prog 18 #[.int .i64 v, .int .i64 d, .bool up] w fun e w' => Below w.heap.size w w' ∧ ∃ t : ByteArray, e = .returned (.tuple #[.string t, .int .i64 c]) ∧ t.data.toList = l :=
  (DFixed_any w v d up G).mono fun _ _ ⟨hb, k⟩ => ⟨hb, AnsS.lit k h⟩
theorem DBoth_lit {lo hi d : Int} (h : bothD lo hi d = (l, c)) (G : Glob w) :
    Calls Tryz.prog 20 #[.agg #[.int .i64 lo, .int .i64 hi], .int .i64 d] w fun e w' => Below w.heap.size w w' ∧ ∃ t : ByteArray, e = .returned (.tuple #[.string t, .int .i64 c]) ∧ t.data.toList = l :=
  (DBoth_any w lo hi d G).mono fun _ _ ⟨hb, k⟩ => ⟨hb, AnsS.lit k h⟩
theorem DParse_lit {s : ByteArray} {d n : Int} (h : parseD s.data.toList d = (n, c)) (hs : s.size ≤ 1000000) (hd0 : -9223372036854775808 ≤ d) (hd1 : d ≤ 9223372036854775807) (G : Glob w) (M : MaxL w) :
    Calls Tryz.prog 14 #[.string s, .int .i64 d] w fun e w' => Below w.heap.size w w' ∧ e = .returned (.tuple #[.int .i64 n, .int .i64 c]) :=
  (DParse_any w s d hs hd0 hd1 G M).mono fun _ _ ⟨hb, k⟩ => ⟨hb, by rw [k, h]⟩
theorem isD_new (w : World) (s : ByteArray) :
    Calls Tryz.prog 23 #[.string s] w fun e w' => Below w.heap.size w w' ∧ ∃ b, e = .returned (.func (.func 52) #[] #[.pointer (some ⟨b, 0, none⟩)]) ∧ One w' b 9 (.string s) :=
  (isD_any w s).mono fun _ _ ⟨he, hw⟩ => ⟨hw ▸ below_alloc1 (Below.refl _ _) _, _, he, hw ▸ One.new w _ _⟩
theorem failsD_new (w : World) (c : Int) :
    Calls Tryz.prog 24 #[.int .i64 c] w fun e w' => Below w.heap.size w w' ∧ ∃ b, e = .returned (.func (.func 53) #[] #[.pointer (some ⟨b, 0, none⟩)]) ∧ One w' b 27 (.int .i64 c) :=
  (failsD_any w c).mono fun _ _ ⟨he, hw⟩ => ⟨hw ▸ below_alloc1 (Below.refl _ _) _, _, he, hw ▸ One.new w _ _⟩
theorem saysD_new (w : World) (c : Int) :
    Calls Tryz.prog 22 #[.int .i64 c] w fun e w' => Below w.heap.size w w' ∧ ∃ b, e = .returned (.func (.func 51) #[] #[.pointer (some ⟨b, 0, none⟩)]) ∧ One w' b 3 (.int .i64 c) :=
  (saysD_any w c).mono fun _ _ ⟨he, hw⟩ => ⟨hw ▸ below_alloc1 (Below.refl _ _) _, _, he, hw ▸ One.new w _ _⟩
theorem refusesD_new (w : World) (c : Int) :
    Calls Tryz.prog 25 #[.int .i64 c] w fun e w' => Below w.heap.size w w' ∧ ∃ b, e = .returned (.func (.func 54) #[] #[.pointer (some ⟨b, 0, none⟩)]) ∧ One w' b 27 (.int .i64 c) :=
  (refusesD_any w c).mono fun _ _ ⟨he, hw⟩ => ⟨hw ▸ below_alloc1 (Below.refl _ _) _, _, he, hw ▸ One.new w _ _⟩
theorem isD_yes {b : Nat} {s t : ByteArray} (h : One w b 9 (.string s)) (ht : t.data.toList = s.data.toList) :
    Calls Tryz.prog 52 #[.string t, .int .i64 0, .pointer (some ⟨b, 0, none⟩)] w fun e w' => Below w.heap.size w w' ∧ e = .returned (.bool true) :=
  (isD1_yes w b s t h ht).mono fun _ _ ⟨he, hw⟩ => ⟨hw ▸ Below.refl _ _, he⟩
theorem failsD_yes {b : Nat} {t : ByteArray} (h : One w b 27 (.int .i64 c)) (ht : t.data.toList = []) :
    Calls Tryz.prog 53 #[.string t, .int .i64 c, .pointer (some ⟨b, 0, none⟩)] w fun e w' => Below w.heap.size w w' ∧ e = .returned (.bool true) := by
  rw [str_empty.1 ht]
  exact (failsD1_yes w b c h).mono fun _ _ ⟨he, hw⟩ => ⟨hw ▸ Below.refl _ _, he⟩
theorem saysD_yes {b : Nat} (h : One w b 3 (.int .i64 c)) :
    Calls Tryz.prog 51 #[.int .i64 c, .int .i64 0, .pointer (some ⟨b, 0, none⟩)] w fun e w' => Below w.heap.size w w' ∧ e = .returned (.bool true) :=
  (says1_yes w b c h).mono fun _ _ ⟨he, hw⟩ => ⟨hw ▸ Below.refl _ _, he⟩
theorem refusesD_yes {b : Nat} (h : One w b 27 (.int .i64 c)) :
    Calls Tryz.prog 54 #[.int .i64 0, .int .i64 c, .pointer (some ⟨b, 0, none⟩)] w fun e w' => Below w.heap.size w w' ∧ e = .returned (.bool true) :=
  (refuses1_yes w b c h).mono fun _ _ ⟨he, hw⟩ => ⟨hw ▸ Below.refl _ _, he⟩
end
end Go.Proofs.YtfklkphoplpebaaGreatDoor
