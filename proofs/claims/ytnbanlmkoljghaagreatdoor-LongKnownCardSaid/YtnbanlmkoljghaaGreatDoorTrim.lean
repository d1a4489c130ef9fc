/- Size.Trim, Size.Part, Size.by. -/
import Derived.Test.YtnbanlmkoljghaaGreatDoorBase
import Derived.Test.YtnbanlmkoljghaaGreatDoorDig
import Derived.BigQuiet
import Derived.Deep.QuietTactic
namespace Go.Proofs.YtnbanlmkoljghaaGreatDoor
open Go Go.RowKit Dig

theorem trim_stop {l : List Nat} {n : Nat} (hs : Small l) (hn : n ≤ l.length) (hv : val (l.take n) = val l) (hz : n = 0 ∨ ∃ h : n - 1 < l.length, l[n - 1] ≠ 0) : l.take n = dig (val l) := by
  rw [← hv]
  refine (dig_val ⟨hs.take n, ?_⟩).symm
  rcases hz with rfl | ⟨h, hne⟩
  · simp
  · rcases Nat.eq_zero_or_pos n with rfl | hp
    · simp
    · rw [List.getLast?_eq_getElem?, List.length_take, Nat.min_eq_left hn, List.getElem?_take, if_pos (by omega), List.getElem?_eq_getElem h]
      simpa using hne
theorem trim_go {l : List Nat} {n : Nat} (hn : n + 1 ≤ l.length) (hv : val (l.take (n + 1)) = val l) (hz : l[n]'hn = 0) : val (l.take n) = val l := by
  rw [← hv, List.take_succ_eq_append_getElem hn, val_snoc, hz]; simp

set_option maxHeartbeats 400000 in
theorem Trim_any (w : World) (v : Value) (l : List Nat) (h : RN w w.heap.size v l) (hs : Small l) :
    Calls Tryz.prog 98 #[v] w fun e w' => Below w.heap.size w w' ∧ ∃ v', e = .returned v' ∧ RN w' w'.heap.size v' (dig (val l)) := by
  obtain ⟨A, c, rfl, hc, hc', hA⟩ := h.cell
  have hl : l.length ≤ 9223372036854775807 := by omega
  have HR := Lib.hid h
  have HS := Lib.hid hs
  replace hA := Lib.hid hA
  clear h hs
  go_enter Tryz.func98, Tryz.ntmps98
  go_wp2
  go_loopw [0] (fun v wr => ∃ n : Nat, n ≤ l.length ∧ v = .slice A n c ∧ Hid (val (l.take n) = val l) ∧ Below w.heap.size w wr) (fun v _ => lenOf v)
  case atStart => exact ⟨_, Nat.le_refl _, rfl, Lib.hid (by rw [List.take_length]), Below.refl _ _⟩
  case round =>
    obtain ⟨n, hn, rfl, hv, hbw⟩ := hrel
    rcases Nat.eq_zero_or_pos n with rfl | hp
    · go_wp2
      go_ret
      refine ⟨hbw, _, rfl, ?_⟩
      have hv0 : val l = 0 := by have := hv.out; simpa [val] using this.symm
      rw [hv0, dig_zero]
      exact ⟨A, c, rfl, by simp [ni], by omega, fun h => absurd h (by simp [ni])⟩
    · obtain ⟨k, rfl⟩ : ∃ k, n = k + 1 := ⟨n - 1, by omega⟩
      obtain ⟨g, off, rfl, hg, hx⟩ := hA.out (by omega)
      have h1 := (hbw.cell (p := ⟨g, off + k, none⟩) hg).trans (hx k (by omega))
      replace hx := Lib.hid hx
      go_wp2
      · have hz : ((l[k] : Nat) : Int) = 0 := beq_yes (by assumption)
        go_roundw
        case rel => exact ⟨k, by omega, rfl, Lib.hid (trim_go (by omega) hv.out (by omega)), hbw⟩
        case measure => simp [lenOf]
      · have hz : ((l[k] : Nat) : Int) ≠ 0 := beq_no (by assumption)
        go_ret
        refine ⟨hbw, .slice (some ⟨g, off, none⟩) (k + 1) c, rfl, ?_⟩
        rw [← trim_stop HS.out hn hv.out (.inr ⟨by omega, by simp only [Nat.add_sub_cancel]; omega⟩)]
        have hl' : (l.take (k + 1)).length = k + 1 := by simp; omega
        refine ⟨_, c, by rw [ni_length, hl'], by rw [ni_length]; omega, by omega, fun _ => ⟨g, off, rfl, by have := hbw.size; omega, fun j hj => ?_⟩⟩
        rw [ni_length] at hj
        rw [ni_get, hbw.cell (p := ⟨g, off + j, none⟩) hg, hx.out j (by omega)]
        simp

/-- One more digit, from below. -/
theorem by_step {d : List Nat} {l : List Nat} {k n c : Nat} (hk : k < l.length) (hd : d.length = k) (hs : Small d) (hv : val d + bp k * c = val (l.take k) * n) :
    (d ++ [(l[k] * n + c) % 1000000000]).length = k + 1 ∧ Small (d ++ [(l[k] * n + c) % 1000000000]) ∧
    val (d ++ [(l[k] * n + c) % 1000000000]) + bp (k + 1) * ((l[k] * n + c) / 1000000000) = val (l.take (k + 1)) * n := by
  refine ⟨by simp [hd], hs.append (Small.cons (Nat.mod_lt _ (by omega)) Small.nil), ?_⟩
  rw [List.take_succ_eq_append_getElem hk, val_snoc, val_snoc, hd, List.length_take, Nat.min_eq_left (by omega), Nat.add_mul, ← hv, bp_succ]
  have h := Nat.div_add_mod (l[k] * n + c) 1000000000
  generalize (l[k] * n + c) / 1000000000 = q at *
  generalize (l[k] * n + c) % 1000000000 = r at *
  have h2 : bp k * (l[k] * n + c) = bp k * (1000000000 * q + r) := by rw [h]
  simp only [Nat.mul_add, Nat.mul_assoc, Nat.mul_left_comm (1000000000 : Nat)] at h2 ⊢
  omega

set_option maxHeartbeats 1000000 in
theorem by_any (w : World) (v : Value) (l : List Nat) (n : Nat) (h : RN w w.heap.size v l) (hs : Small l) (hn : n ≤ 1000000000) (hl0 : l.length ≤ 1000000) :
    Calls Tryz.prog 100 #[v, .int .i64 n] w fun e w' => Below w.heap.size w w' ∧ ∃ g r, e = .returned (.slice (some ⟨g, 0, none⟩) (l.length + 1) (l.length + 1)) ∧ w.heap.size ≤ g ∧
      r.length = l.length + 1 ∧ Small r ∧ val r = val l * n ∧ Own w' g (ni r) := by
  obtain ⟨A, c, rfl, hc, hc', hA⟩ := h.cell
  have HR := Lib.hid h
  have HS := Lib.hid hs
  replace hA := Lib.hid hA
  clear h hs
  have hmk := mk_size (l.length + 1) (by omega)
  simp only [Int.natCast_add, Int.natCast_one] at hmk
  go_enter Tryz.func100, Tryz.ntmps100
  go_wp2
  have hown := own_new w (l.length + 1)
  have hb0 : Below w.heap.size w (w.alloc (zerosObj (l.length + 1))) := (Below.refl _ _).alloc (Nat.le_refl _) _
  generalize hg : w.heap.size = g at *
  generalize w.alloc (zerosObj (l.length + 1)) = w1 at *
  go_loopw [6, 16] (fun cv i wr => ∃ (k cr : Nat) (d : List Nat), k ≤ l.length ∧ i = .int .i64 k ∧ cv = .int .i64 cr ∧ cr < 1000000000 ∧ Hid (d.length = k ∧ Small d ∧ val d + bp k * cr = val (l.take k) * n) ∧
      Below g w wr ∧ Own wr g (ni d ++ List.replicate (l.length - k + 1) 0)) (fun _ i _ => l.length - (intOf i).toNat)
  case atStart => exact ⟨0, 0, [], by omega, rfl, rfl, by omega, Lib.hid ⟨rfl, Small.nil, by simp [val]⟩, hb0, by simpa [ni] using hown⟩
  case round =>
    obtain ⟨k, cr, d, hk, rfl, rfl, hcr, hd, hbw, ho⟩ := hrel
    obtain ⟨hd1, hd2, hd3⟩ := hd.out
    have HD := Lib.hid (show d.length = k from hd1)
    have H3 := Lib.hid hd3
    have H2 := Lib.hid hd2
    clear hd1 hd2 hd3 hd
    have hgw : g < wr.heap.size := ho.lt
    by_cases hlt : k < l.length
    · obtain ⟨b, off, rfl, hb, hx⟩ := hA.out (by omega)
      have h1 := (hbw.cell (p := ⟨b, off + k, none⟩) hb).trans (hx k (by omega))
      replace hx := Lib.hid hx
      obtain ⟨m, hm⟩ : ∃ m, l.length - k + 1 = m + 1 := ⟨l.length - k, rfl⟩
      rw [hm] at ho
      have hc2 := own_next ho HD.out
      have hf2 := ho.frozen k
      have HM := Lib.hid hm
      have HO := Lib.hid ho
      clear hm ho
      have hxb : l[k] < 1000000000 := HS.out _ (List.getElem_mem hlt)
      have hxn0 : (0 : Int) ≤ (l[k] : Int) * (n : Int) := by exact Int.mul_nonneg (by omega) (by omega)
      have hxn : (l[k] : Int) * (n : Int) ≤ 1000000000 * 1000000000 := Int.mul_le_mul (by omega) (by omega) (by omega) (by omega)
      go_wp2
      obtain ⟨s1, s2, s3⟩ := by_step hlt HD.out H2.out H3.out
      go_roundw
      case rel =>
        have hq : l[k] * n ≤ 999999999 * 1000000000 := Nat.mul_le_mul (by omega) hn
        exact ⟨k + 1, (l[k] * n + cr) / 1000000000, _, by omega, by go_num, by go_num, by omega, Lib.hid ⟨s1, s2, s3⟩, hbw.setCell (Nat.le_refl _) _, by
          rw [show l.length - (k + 1) + 1 = m by have := HM.out; omega]
          exact own_put HO.out HD.out (by omega)⟩
      case measure => simp [intOf]; omega
    · obtain rfl : k = l.length := by omega
      rw [Nat.sub_self] at ho
      have hc2 := own_next ho HD.out
      have hf2 := ho.frozen l.length
      have HO := Lib.hid ho
      clear ho
      go_wp2
      go_ret
      refine ⟨by rw [hg]; exact hbw.setCell (Nat.le_refl _) _, g, d ++ [cr], rfl, by omega, by simp [HD.out], H2.out.append (Small.cons hcr Small.nil), ?_, by simpa using own_put HO.out HD.out rfl⟩
      have := H3.out
      rw [List.take_length] at this
      rw [val_snoc, HD.out, this]
end Go.Proofs.YtnbanlmkoljghaaGreatDoor
