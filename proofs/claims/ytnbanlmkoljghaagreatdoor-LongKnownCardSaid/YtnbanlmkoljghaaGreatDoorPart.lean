/- Size.Part: the walk. -/
import Derived.Test.YtnbanlmkoljghaaGreatDoorArith
import Derived.Test.YtnbanlmkoljghaaGreatDoorTrim
import Derived.Test.YtnbanlmkoljghaaGreatDoorClone
import Derived.RegionTactic
import Derived.BigRegion
import Derived.BigQuiet
import Derived.Deep.QuietTactic
namespace Go.Proofs.YtnbanlmkoljghaaGreatDoor
open Go Go.RowKit Dig

set_option maxRecDepth 100000 in
set_option maxHeartbeats 4000000 in
theorem Part_any (w : World) (va : Value) (a n : Nat) (ha : RN w w.heap.size va (dig a)) (hl : (dig a).length ≤ 1000000) (hn : 0 < n) (hn' : n ≤ 1000000000) :
    Calls Tryz.prog 99 #[va, .int .i64 n] w fun e w' => Below w.heap.size w w' ∧ ∃ v, e = .returned (.tuple #[v, .int .i64 ((a % n : Nat) : Int)]) ∧ RN w' w'.heap.size v (dig (a / n)) := by
  obtain ⟨A, ca, rfl, hca, hca', hA⟩ := ha.cell
  replace hA := Lib.hid hA
  clear ha
  have hmk := mk_size (dig a).length (by omega)
  go_enter Tryz.func99, Tryz.ntmps99
  go_wp2
  have ho1 := own_new w (dig a).length
  have hb1 : Below w.heap.size w (w.alloc (zerosObj (dig a).length)) := (Below.refl _ _).alloc (Nat.le_refl _) _
  generalize hg : w.heap.size = g at *
  generalize w.alloc (zerosObj (dig a).length) = w1 at *
  go_loopw [7, 8] (fun rv i wr => ∃ (m : Int) (rest : Nat) (q : List Nat), -1 ≤ m ∧ m < (dig a).length ∧ i = .int .i64 m ∧ rv = .int .i64 rest ∧ rest < n ∧
      Hid (q.length + (m + 1).toNat = (dig a).length ∧ Small q ∧ val ((dig a).drop (m + 1).toNat) = val q * n + rest) ∧ Below g w wr ∧ Own wr g (List.replicate (m + 1).toNat 0 ++ ni q)) (fun _ i _ => (intOf i + 1).toNat)
  case atStart => exact ⟨_, 0, [], by omega, by omega, rfl, rfl, hn, Lib.hid ⟨by simp, Small.nil, by rw [List.drop_eq_nil_of_le (by omega)]; simp [val]⟩, hb1, by
    rw [show ((((dig a).length : Int) - 1 + 1).toNat) = (dig a).length by omega]; simpa [ni] using ho1⟩
  case round =>
    clear hb1 ho1
    obtain ⟨m, rest, q, hm1, hm2, rfl, rfl, hr, hP, hbw, ho⟩ := hrel
    have hgw : g < wr.heap.size := ho.lt
    by_cases hm : 0 ≤ m
    · obtain ⟨k, rfl⟩ := Int.eq_ofNat_of_zero_le hm
      obtain ⟨bk, off, rfl, hbk, hx⟩ := hA.out (by omega)
      have hka : k < (dig a).length := by omega
      have h1 := (hbw.cell (p := ⟨bk, off + k, none⟩) hbk).trans (hx k (by omega))
      replace hx := Lib.hid hx
      rw [show ((k : Int) + 1).toNat = k + 1 by omega] at ho
      obtain ⟨hp1, hp2, hp3⟩ := hP.out
      rw [show ((k : Int) + 1).toNat = k + 1 by omega] at hp1 hp3
      have HST := Lib.hid (part_step hka hn (dig_small a) hp3 hr hp2)
      have HP1 := Lib.hid hp1
      clear hp1 hp2 hp3 hP
      have hxk : (dig a)[k] < 1000000000 := dig_small a _ (List.getElem_mem hka)
      obtain ⟨x, hxx⟩ : ∃ x, x = (dig a)[k] := ⟨_, rfl⟩
      rw [← hxx] at h1 hxk HST
      clear hxx
      have h2 : wr.cell? ⟨g, k, none⟩ = some (.int .i64 0) := by
        rw [ho.cell k (by simp; omega)]; simp
      have hf := ho.frozen k
      have HO := Lib.hid ho
      clear ho
      go_wp2
      go_region
      go_wp2
      have hd : rest * 1000000000 + x < n * 1000000000 := by
        have : (rest + 1) * 1000000000 ≤ n * 1000000000 := Nat.mul_le_mul_right _ hr
        omega
      go_roundw
      case rel =>
        have h4 := HO.out.set k (((rest * 1000000000 + x) / n : Nat) : Int) (by simp; omega)
        rw [set_top] at h4
        have e : (((rest * 1000000000 + x) / n : Nat) : Int) = ((rest : Int) * 1000000000 + (x : Int)) / (n : Int) := by rw [Int.natCast_ediv]; rfl
        have e' : (((rest * 1000000000 + x) % n : Nat) : Int) = ((rest : Int) * 1000000000 + (x : Int)) % (n : Int) := by rw [Int.natCast_emod]; rfl
        rw [e] at h4
        have hs := HST.out
        have hk1 : ((k : Int) - 1 + 1).toNat = k := by omega
        exact ⟨_, (rest * 1000000000 + x) % n, (rest * 1000000000 + x) / n :: q, by omega, by omega, rfl, by rw [e'], Nat.mod_lt _ hn, Lib.hid ⟨by rw [hk1]; have := HP1.out; simp; omega, hs.2, by rw [hk1]; exact hs.1⟩, ((hbw.drew).setCell (Nat.le_refl _) _), by rw [hk1]; exact h4⟩
      case measure => simp [intOf]
    · obtain rfl : m = -1 := by omega
      obtain ⟨hp1, hp2, hp3⟩ := hP.out
      simp only [Int.reduceNeg, Int.reduceAdd, Int.toNat_zero, List.drop_zero, List.replicate_zero, List.nil_append, Nat.add_zero] at hp1 hp3 ho
      have hrn := own_rn ho (dig a).length (dig a).length hp1.symm (by omega) (by omega)
      have HV := Lib.hid hp3
      have HQ := Lib.hid hp2
      clear hp1 hp2 hp3 hP
      go_wp2_with (go_at_call 98; refine (Trim_any _ _ q hrn HQ.out).mono ?_; rintro e w2 ⟨hb2, v', rfl, hv'⟩)
      go_ret2
      have h := HV.out
      rw [val_dig] at h
      have h1 : a / n = val q := by
        rw [h]; exact Nat.div_eq_of_lt_le (by omega) (by rw [Nat.succ_mul]; omega)
      have h2 : a % n = rest := by
        rw [h, Nat.mul_comm, Nat.mul_add_mod]; exact Nat.mod_eq_of_lt hr
      rw [h1, h2]
      exact ⟨by rw [hg]; exact hbw.trans (hb2.mono (by omega)), _, rfl, hv'⟩
end Go.Proofs.YtnbanlmkoljghaaGreatDoor
