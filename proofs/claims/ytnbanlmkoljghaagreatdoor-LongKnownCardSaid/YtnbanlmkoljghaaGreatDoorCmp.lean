import Derived.Test.YtnbanlmkoljghaaGreatDoorProg
import Derived.Test.YtnbanlmkoljghaaGreatDoorMem
import Derived.Test.YtnbanlmkoljghaaGreatDoorDig
import Derived.BigQuiet
import Derived.Deep.QuietTactic
namespace Go.Proofs.YtnbanlmkoljghaaGreatDoor
open Go Go.RowKit Dig

/-- The sign of c tells how a and b compare. -/
def SignOf (c : Int) (a b : Nat) : Prop := (c < 0 ↔ a < b) ∧ (c = 0 ↔ a = b)

theorem sign_len {a b : Nat} (h : (dig a).length ≠ (dig b).length) : SignOf (((dig a).length : Int) - ((dig b).length : Int)) a b := by
  unfold SignOf
  rcases Nat.lt_or_gt_of_ne h with h | h <;> have := cmp_len h <;> omega
theorem sign_at {a b k : Nat} (hl : (dig a).length = (dig b).length) (hk : k < (dig a).length) (hk' : k < (dig b).length) (hd : (dig a).drop (k + 1) = (dig b).drop (k + 1))
    (hne : (dig a)[k] ≠ (dig b)[k]) : SignOf (((dig a)[k] : Int) - ((dig b)[k] : Int)) a b := by
  have h1 := cmp_at (dig_small a) hl hk hd
  have h2 := cmp_at (dig_small b) hl.symm hk' hd.symm
  rw [val_dig, val_dig, getD_get hk, getD_get hk'] at h1 h2
  unfold SignOf
  rcases Nat.lt_or_gt_of_ne hne with h | h
  · have := h1 h; omega
  · have := h2 h; omega
theorem sign_eq {a b : Nat} (h : dig a = dig b) : SignOf 0 a b := by
  have := dig_inj h
  unfold SignOf; omega
theorem drop_same {l m : List Nat} {k : Nat} (hl : k < l.length) (hm : k < m.length) (h : l[k] = m[k]) (hd : l.drop (k + 1) = m.drop (k + 1)) : l.drop k = m.drop k := by
  rw [List.drop_eq_getElem_cons hl, List.drop_eq_getElem_cons hm, h, hd]

set_option maxHeartbeats 400000 in
theorem Cmp_any (w : World) (va vb : Value) (a b : Nat) (ha : RN w w.heap.size va (dig a)) (hb : RN w w.heap.size vb (dig b)) :
    Calls Tryz.prog 88 #[va, vb] w fun e w' => Below w.heap.size w w' ∧ ∃ c : Int, e = .returned (.int .i64 c) ∧ SignOf c a b := by
  obtain ⟨A, ca, rfl, hca, hca', hA⟩ := ha.cell
  obtain ⟨Bb, cb, rfl, hcb, hcb', hB⟩ := hb.cell
  have hla : (dig a).length ≤ 9223372036854775807 := by omega
  have hlb : (dig b).length ≤ 9223372036854775807 := by omega
  have hsa := Lib.hid (dig_small a)
  have hsb := Lib.hid (dig_small b)
  clear ha hb
  by_cases hne : (dig a).length = (dig b).length
  · have HL := Lib.hid hne
    have hA := Lib.hid hA
    have hB := Lib.hid hB
    have hle : ((dig a).length : Int) ≤ (dig b).length := by omega
    have hge : ((dig b).length : Int) ≤ (dig a).length := by omega
    clear hne
    go_enter Tryz.func88, Tryz.ntmps88
    go_wp2
    go_loopw [5] (fun i wr => ∃ n : Int, i = .int .i64 n ∧ -1 ≤ n ∧ n < (dig a).length ∧ Hid ((dig a).drop (n + 1).toNat = (dig b).drop (n + 1).toNat) ∧ Below w.heap.size w wr) (fun i _ => (intOf i + 1).toNat)
    case atStart => exact ⟨_, rfl, by omega, by omega, by rw [List.drop_eq_nil_of_le (by omega), List.drop_eq_nil_of_le (by omega)]; rfl, Below.refl _ _⟩
    case round =>
      obtain ⟨n, rfl, hn1, hn2, hd, hbw⟩ := hrel
      by_cases hn : 0 ≤ n
      · obtain ⟨k, rfl⟩ := Int.eq_ofNat_of_zero_le hn
        obtain ⟨g, off, rfl, hg, hx⟩ := hA.out (by omega)
        obtain ⟨g', off', rfl, hg', hx'⟩ := hB.out (by omega)
        have h1 := (hbw.cell (p := ⟨g, off + k, none⟩) hg).trans (hx k (by omega))
        have h2 := (hbw.cell (p := ⟨g', off' + k, none⟩) hg').trans (hx' k (by omega))
        clear hx hx'
        have hka : k < (dig a).length := by omega
        have hkb : k < (dig b).length := by omega
        have hba : (dig a)[k] < 1000000000 := hsa.out _ (List.getElem_mem hka)
        have hbb : (dig b)[k] < 1000000000 := hsb.out _ (List.getElem_mem hkb)
        go_wp2
        go_quiet (fail)
        go_wp2
        · go_quiet (fail)
          go_wp2
          have hne : (dig a)[k] ≠ (dig b)[k] := nat_ne (by assumption)
          go_ret
          exact ⟨below_drewN (below_drewN hbw _) _, _, rfl, sign_at HL.out hka hkb (by simpa using hd.out) hne⟩
        · have he : (dig a)[k] = (dig b)[k] := nat_eq (by assumption)
          go_roundw
          case rel => exact ⟨_, rfl, by omega, by omega, Lib.hid (by simpa using drop_same hka hkb he (by simpa using hd.out)), below_drewN hbw _⟩
          case measure => simp [intOf]
      · obtain rfl : n = -1 := by omega
        have he := hd.out
        simp only [Int.reduceNeg, Int.reduceAdd, Int.toNat_zero, List.drop_zero] at he
        have HE := Lib.hid he
        clear he hd
        go_wp2
        go_ret
        exact ⟨hbw, _, rfl, sign_eq HE.out⟩
  · go_enter Tryz.func88, Tryz.ntmps88
    go_wp2
    go_ret
    exact ⟨Below.refl _ _, _, rfl, sign_len hne⟩
end Go.Proofs.YtnbanlmkoljghaaGreatDoor
