/- slices.Clone at []int and at Size. -/
import Derived.Test.YtnbanlmkoljghaaGreatDoorBase
import Derived.Lib.Walk
import Derived.Lib.SliceRun
import Derived.WalkSpells
namespace Go.Proofs.YtnbanlmkoljghaaGreatDoor
open Go Go.RowKit

set_option maxHeartbeats 1000000 in
theorem clone_ints (w : World) (v : Value) (l : List Int) (h : RI w w.heap.size v l) (hl : l.length ≤ 10000000000) :
    Calls Tryz.prog 59 #[v] w fun e w' => Below w.heap.size w w' ∧ ∃ v', e = .returned v' ∧ OwnV w' w.heap.size v' l := by
  obtain ⟨A, c, rfl, hc, hc', hA⟩ := h
  obtain ⟨i0, hi, hz0, hz1, hz2⟩ := info_parts info_int
  have q22 : ∀ (w : World) (a : Option Addr) (n c n' c' : Nat), (binOp .eql 22 (.slice a n c) (.slice none n' c')).run Tryz.prog w = .ok (.bool a.isNone) w := fun w a n c n' c' => Lib.run_eql_slice_nil w _ _ a n c n' c' Tryz.underlying22
  cases A with
  | none =>
    have h0 : l = [] := by
      rcases Nat.eq_zero_or_pos l.length with h | h
      · exact List.eq_nil_of_length_eq_zero h
      · obtain ⟨g, off, h, _⟩ := hA h; cases h
    subst h0
    go_enter Tryz.func59, Tryz.ntmps59
    go_wp2
    go_ret
    exact ⟨Below.refl _ _, _, rfl, OwnV.nil _ _⟩
  | some ad =>
    have HA : ∀ j u, (l.map (Value.int .i64))[j]? = some u → w.cell? (ad.add j) = some u := by
      intro j u hj
      have hjl : j < l.length := by have := (List.getElem?_eq_some_iff.1 hj).1; simpa using this
      obtain ⟨g, off, he, _, hx⟩ := hA (by omega)
      obtain rfl := Option.some.inj he
      rw [List.getElem?_map, List.getElem?_eq_getElem hjl] at hj
      rw [Addr.add_lit, hx j hjl]
      exact hj
    have HA := Lib.hid HA
    clear hA
    go_enter Tryz.func59, Tryz.ntmps59
    go_wp2_with (at_builtin; refine wpList_append_own _ rfl _ _ 22 rfl w.heap.size 3 i0 (.int .i64 0) 1 8 Tryz.underlying22 hi hz0 hz1 hz2 rfl (by decide) _ _ _ rfl (World.ownsRow_made w #[] 0 (Nat.le_refl _) (Nat.zero_le _) rfl) ad l.length c (l.map (Value.int .i64)) rfl ?qc1 ?qc2 ?qc3 ?qc4 ?qc5 ?qc6 ?_)
    case qc1 => simp
    case qc2 => intro j u hj; exact Lib.cell?_alloc_some _ (HA.out j u hj)
    case qc3 => intro u hu; obtain ⟨x, _, rfl⟩ := List.mem_map.1 hu; rfl
    case qc4 => unfold maxLen; omega
    case qc5 => omega
    case qc6 => simp
    intro v' w1 hown hgrow hnil
    go_wp2
    go_ret
    exact ⟨((Below.refl _ w).alloc (Nat.le_refl _) _).grown hgrow (by simp) (by intro k hk; simp [Value.ownBlock] at hk; omega), v', rfl, by simpa [OwnV] using hown⟩

set_option maxHeartbeats 1000000 in
theorem clone_size (w : World) (v : Value) (l : List Int) (h : RI w w.heap.size v l) (hl : l.length ≤ 10000000000) :
    Calls Tryz.prog 103 #[v] w fun e w' => Below w.heap.size w w' ∧ ∃ v', e = .returned v' ∧ OwnV w' w.heap.size v' l := by
  obtain ⟨A, c, rfl, hc, hc', hA⟩ := h
  obtain ⟨i0, hi, hz0, hz1, hz2⟩ := info_parts info_int
  have q22 : ∀ (w : World) (a : Option Addr) (n c n' c' : Nat), (binOp .eql 79 (.slice a n c) (.slice none n' c')).run Tryz.prog w = .ok (.bool a.isNone) w := fun w a n c n' c' => Lib.run_eql_slice_nil w _ _ a n c n' c' Tryz.underlying79
  cases A with
  | none =>
    have h0 : l = [] := by
      rcases Nat.eq_zero_or_pos l.length with h | h
      · exact List.eq_nil_of_length_eq_zero h
      · obtain ⟨g, off, h, _⟩ := hA h; cases h
    subst h0
    go_enter Tryz.func103, Tryz.ntmps103
    go_wp2
    go_ret
    exact ⟨Below.refl _ _, _, rfl, OwnV.nil _ _⟩
  | some ad =>
    have HA : ∀ j u, (l.map (Value.int .i64))[j]? = some u → w.cell? (ad.add j) = some u := by
      intro j u hj
      have hjl : j < l.length := by have := (List.getElem?_eq_some_iff.1 hj).1; simpa using this
      obtain ⟨g, off, he, _, hx⟩ := hA (by omega)
      obtain rfl := Option.some.inj he
      rw [List.getElem?_map, List.getElem?_eq_getElem hjl] at hj
      rw [Addr.add_lit, hx j hjl]
      exact hj
    have HA := Lib.hid HA
    clear hA
    go_enter Tryz.func103, Tryz.ntmps103
    go_wp2_with (at_builtin; refine wpList_append_own _ rfl _ _ 79 rfl w.heap.size 3 i0 (.int .i64 0) 1 8 Tryz.underlying79 hi hz0 hz1 hz2 rfl (by decide) _ _ _ rfl (World.ownsRow_made w #[] 0 (Nat.le_refl _) (Nat.zero_le _) rfl) ad l.length c (l.map (Value.int .i64)) rfl ?qc1 ?qc2 ?qc3 ?qc4 ?qc5 ?qc6 ?_)
    case qc1 => simp
    case qc2 => intro j u hj; exact Lib.cell?_alloc_some _ (HA.out j u hj)
    case qc3 => intro u hu; obtain ⟨x, _, rfl⟩ := List.mem_map.1 hu; rfl
    case qc4 => unfold maxLen; omega
    case qc5 => omega
    case qc6 => simp
    intro v' w1 hown hgrow hnil
    go_wp2
    go_ret
    exact ⟨((Below.refl _ w).alloc (Nat.le_refl _) _).grown hgrow (by simp) (by intro k hk; simp [Value.ownBlock] at hk; omega), v', rfl, by simpa [OwnV] using hown⟩
end Go.Proofs.YtnbanlmkoljghaaGreatDoor
