/- Size.less, Size.more: the walks. -/
import Derived.Test.YtnbanlmkoljghaaGreatDoorBase
import Derived.Test.YtnbanlmkoljghaaGreatDoorDiv
import Derived.BigQuiet
import Derived.RegionTactic
import Derived.Deep.QuietTactic
namespace Go.Proofs.YtnbanlmkoljghaaGreatDoor
open Go Go.RowKit Dig

set_option maxRecDepth 100000 in
set_option maxHeartbeats 4000000 in
theorem less_any (w : World) (g off c d n : Nat) (pre post : List Int) (U V : List Nat) (vv : Value) (hoff : pre.length = off) (ho : Own w g (pre ++ (ni U ++ post))) (hU : U.length = n + 1) (hV : V.length = n) (hsU : Small U) (hsV : Small V)
    (hv : RIx w w.heap.size g vv (ni V)) (hd : d < 1000000000) (hc : n + 1 ≤ c) (hlow : (d : Int) * (val V : Int) ≤ (val U : Int) + (bp n : Int)) :
    Calls Tryz.prog 101 #[.slice (some ⟨g, off, none⟩) (n + 1) c, vv, .int .i64 d] w fun e w' => Only g w w' ∧ ∃ R : List Nat, R.length = n + 1 ∧ Small R ∧ Own w' g (pre ++ (ni R ++ post)) ∧
      ((e = .returned (.bool false) ∧ d * val V ≤ val U ∧ val R = val U - d * val V) ∨ (e = .returned (.bool true) ∧ val U < d * val V ∧ val R + d * val V = val U + bp (n + 1))) := by
  subst hoff
  obtain ⟨A, cv, rfl, hcv, hcv', hA⟩ := hv
  simp only [ni_length, hV] at hcv hA
  rw [ni_length, hV]
  replace hA := Lib.hid hA
  have HU := Lib.hid hU
  have HV := Lib.hid hV
  have HSU := Lib.hid hsU
  have HSV := Lib.hid hsV
  have HLOW := Lib.hid hlow
  have hgw0 := ho.lt
  clear hU hV hsU hsV hlow
  have hI0 : Hid (([] : List Int).length = 0 ∧ SmallI [] ∧ valI [] - (bp 0 : Int) * 0 = (val (U.take 0) : Int) - (d : Int) * (val (V.take 0) : Int)) := Lib.hid ⟨rfl, SmallI.nil, by simp [val, valI]⟩
  go_enter Tryz.func101, Tryz.ntmps101
  go_wp2
  go_loopw [7, 14] (fun bv i wr => ∃ (k : Nat) (br : Int) (dn : List Int), k ≤ n ∧ i = .int .i64 k ∧ bv = .int .i64 br ∧ 0 ≤ br ∧ br ≤ 1000000000 ∧
      Hid (dn.length = k ∧ SmallI dn ∧ valI dn - (bp k : Int) * br = (val (U.take k) : Int) - (d : Int) * (val (V.take k) : Int)) ∧ Only g w wr ∧ Own wr g (pre ++ ((dn ++ ni (U.drop k)) ++ post))) (fun _ i _ => n - (intOf i).toNat)
  case atStart => exact ⟨0, 0, [], by omega, rfl, rfl, by omega, by omega, hI0, Only.refl _ _, by simpa using ho⟩
  case round =>
    clear ho hI0
    obtain ⟨k, br, dn, hk, rfl, rfl, hbr, hbr', hI, hbw, ho⟩ := hrel
    have hgw : g < wr.heap.size := ho.lt
    by_cases hlk : k < n
    · obtain ⟨bk, off, rfl, hbk, hne, hx⟩ := hA.out (by omega)
      have hkU : k < U.length := by have := HU.out; omega
      have hkV : k < V.length := by have := HV.out; omega
      have h1 := (hbw.cell (p := ⟨bk, off + k, none⟩) hbk hne).trans (hx k hlk)
      rw [at0_nat hkV] at h1
      replace hx := Lib.hid hx
      obtain ⟨hi1, hi2, hi3⟩ := hI.out
      rw [drop_cons hkU] at ho
      have h2 := own_at ho (pre.length + k) (by simp; omega)
      rw [get_mid hi1] at h2
      have hf := ho.frozen (pre.length + k)
      have HLS := Lib.hid (fun (m t : Int) => less_step (n := m) (t := t) hkU hkV hi1 hi2 hi3)
      have HSET := Lib.hid (fun (m : Int) => (set_mid (pre := pre) (t := ni (U.drop (k + 1))) (post := post) (x := m) (y := (U[k] : Int)) hi1))
      have hVk : V[k] < 1000000000 := HSV.out _ (List.getElem_mem hkV)
      have hUk : U[k] < 1000000000 := HSU.out _ (List.getElem_mem hkU)
      have hlen : pre.length + k < (pre ++ ((dn ++ (U[k] : Int) :: ni (U.drop (k + 1))) ++ post)).length := by simp; omega
      have HLEN := Lib.hid hlen
      have HO := Lib.hid ho
      clear hi1 hi2 hi3 hI ho hlen
      obtain ⟨x, hx1⟩ : ∃ x, x = V[k] := ⟨_, rfl⟩
      obtain ⟨u, hu1⟩ : ∃ u, u = U[k] := ⟨_, rfl⟩
      rw [← hx1] at h1 hVk HLS
      rw [← hu1] at h2 hUk HLS HSET HLEN HO
      clear hx1 hu1
      have hxy : x * d ≤ 999999999 * 999999999 := Nat.mul_le_mul (by omega) (by omega)
      have hxy1 : (x : Int) * (d : Int) ≤ 999999999 * 999999999 := by rw [← Int.natCast_mul]; omega
      have hxy0 : 0 ≤ (x : Int) * (d : Int) := by rw [← Int.natCast_mul]; omega
      by_cases hn1 : (u : Int) - ((x : Int) * (d : Int)) % 1000000000 - br < 0
      · by_cases hn2 : (u : Int) - ((x : Int) * (d : Int)) % 1000000000 - br + 1000000000 < 0
        · go_wp2
          go_roundw
          case rel =>
            have hls := HLS.out ((u : Int) - ((x : Int) * (d : Int)) % 1000000000 - br + 1000000000 + 1000000000) 2 (by omega) (by omega) (by omega)
            have h4 := HO.out.set (pre.length + k) ((u : Int) - ((x : Int) * (d : Int)) % 1000000000 - br + 1000000000 + 1000000000) HLEN.out
            rw [HSET.out] at h4
            exact ⟨k + 1, (x : Int) * (d : Int) / 1000000000 + 2, _, by omega, by go_num, by go_num, by omega, by omega, Lib.hid hls, hbw.set _ _, h4⟩
          case measure => simp [intOf]; omega
        · go_wp2
          go_roundw
          case rel =>
            have hls := HLS.out ((u : Int) - ((x : Int) * (d : Int)) % 1000000000 - br + 1000000000) 1 (by omega) (by omega) (by omega)
            have h4 := HO.out.set (pre.length + k) ((u : Int) - ((x : Int) * (d : Int)) % 1000000000 - br + 1000000000) HLEN.out
            rw [HSET.out] at h4
            exact ⟨k + 1, (x : Int) * (d : Int) / 1000000000 + 1, _, by omega, by go_num, by go_num, by omega, by omega, Lib.hid hls, hbw.set _ _, h4⟩
          case measure => simp [intOf]; omega
      · go_wp2
        go_roundw
        case rel =>
          have hls := HLS.out ((u : Int) - ((x : Int) * (d : Int)) % 1000000000 - br) 0 (by omega) (by omega) (by omega)
          have h4 := HO.out.set (pre.length + k) ((u : Int) - ((x : Int) * (d : Int)) % 1000000000 - br) HLEN.out
          rw [HSET.out] at h4
          exact ⟨k + 1, (x : Int) * (d : Int) / 1000000000 + 0, _, by omega, by go_num, by go_num, by omega, by omega, Lib.hid hls, hbw.set _ _, h4⟩
        case measure => simp [intOf]; omega
    · obtain rfl : k = n := by omega
      have hkU : k < U.length := by have := HU.out; omega
      obtain ⟨hi1, hi2, hi3⟩ := hI.out
      have HL := Lib.hid (less_last HU.out HV.out hi1 hi2 hi3 HLOW.out)
      have hlast := HL.out.2.1
      rw [drop_cons hkU, List.drop_eq_nil_of_le (by have := HU.out; omega)] at ho
      have h2 := own_at ho (pre.length + k) (by simp; omega)
      rw [get_mid hi1] at h2
      have hf := ho.frozen (pre.length + k)
      have HSET := Lib.hid (fun (m : Int) => (set_mid (pre := pre) (t := ni []) (post := post) (x := m) (y := (U[k] : Int)) hi1))
      have HSET2 := Lib.hid (fun (m y : Int) => (set_mid (pre := pre) (t := []) (post := post) (x := m) (y := y) hi1))
      have hUk : U[k] < 1000000000 := HSU.out _ (List.getElem_mem hkU)
      have hlen : pre.length + k < (pre ++ ((dn ++ (U[k] : Int) :: ni []) ++ post)).length := by simp; omega
      have HLEN := Lib.hid hlen
      have HO := Lib.hid ho
      have HI := Lib.hid hi2
      have HI1 := Lib.hid hi1
      clear hi1 hi2 hi3 hI ho hlen
      obtain ⟨u, hu1⟩ : ∃ u, u = U[k] := ⟨_, rfl⟩
      rw [← hu1] at h2 hUk HSET HLEN HO HL hlast
      clear hu1
      have HE := Lib.hid (fun (m : Int) (h0 : 0 ≤ m) (h1 : m < 1000000000) => (HI.out.snoc h0 h1).toNi)
      by_cases hneg : (u : Int) - br < 0
      · have hf2 : wr.frozen? ⟨g, pre.length + k, none⟩ = false := hf
        have h3 := own_at (HO.out.set (pre.length + k) ((u : Int) - br) HLEN.out) (pre.length + k) (by rw [List.length_set]; exact HLEN.out)
        rw [at0_set_same HLEN.out] at h3
        have hf3 := (HO.out.set (pre.length + k) ((u : Int) - br) HLEN.out).frozen (pre.length + k)
        go_wp2
        go_ret
        have h4 := (HO.out.set (pre.length + k) ((u : Int) - br) HLEN.out).set (pre.length + k) ((u : Int) - br + 1000000000) (by rw [List.length_set]; exact HLEN.out)
        rw [HSET.out, show ni [] = [] from rfl, List.append_nil, HSET2.out, List.append_nil] at h4
        obtain ⟨r, hr1, hr2, hr3, hr4⟩ := HE.out ((u : Int) - br + 1000000000) (by omega) (by omega)
        rw [hr1] at h4
        obtain ⟨e1, e2, e3⟩ := HL.out
        refine ⟨(hbw.set _ _).set _ _, r, by rw [hr2]; simp [HI1.out], hr3, h4, .inr ⟨rfl, ?_, ?_⟩⟩
        · have := e3.1 hneg
          rw [← Int.natCast_mul] at this; omega
        · rw [valI_snoc, HI1.out, Int.mul_add] at hr4
          have hb := bpI_succ k
          rw [← Int.natCast_mul] at e1
          omega
      · go_wp2
        go_ret
        have h4 := HO.out.set (pre.length + k) ((u : Int) - br) HLEN.out
        rw [HSET.out, show ni [] = [] from rfl, List.append_nil] at h4
        obtain ⟨r, hr1, hr2, hr3, hr4⟩ := HE.out ((u : Int) - br) (by omega) (by omega)
        rw [hr1] at h4
        obtain ⟨e1, e2, e3⟩ := HL.out
        rw [valI_snoc, HI1.out] at hr4
        rw [← Int.natCast_mul] at e1 e3
        refine ⟨hbw.set _ _, r, by rw [hr2]; simp [HI1.out], hr3, h4, .inl ⟨rfl, ?_, ?_⟩⟩
        · apply Nat.le_of_not_lt
          intro hlt
          have := e3.2 (by omega)
          omega
        · omega

set_option maxRecDepth 100000 in
set_option maxHeartbeats 4000000 in
theorem more_any (w : World) (g off c n : Nat) (pre post : List Int) (U V : List Nat) (vv : Value) (hoff : pre.length = off) (ho : Own w g (pre ++ (ni U ++ post))) (hU : U.length = n + 1) (hV : V.length = n) (hsU : Small U) (hsV : Small V)
    (hv : RIx w w.heap.size g vv (ni V)) (hc : n + 1 ≤ c) :
    Calls Tryz.prog 102 #[.slice (some ⟨g, off, none⟩) (n + 1) c, vv] w fun e w' => e = .returned (.tuple #[]) ∧ Only g w w' ∧ ∃ R : List Nat, R.length = n + 1 ∧ Small R ∧ Own w' g (pre ++ (ni R ++ post)) ∧
      ∃ q, val R + bp (n + 1) * q = val U + val V := by
  subst hoff
  obtain ⟨A, cv, rfl, hcv, hcv', hA⟩ := hv
  simp only [ni_length, hV] at hcv hA
  rw [ni_length, hV]
  replace hA := Lib.hid hA
  have HU := Lib.hid hU
  have HV := Lib.hid hV
  have HSU := Lib.hid hsU
  have HSV := Lib.hid hsV
  have hgw0 := ho.lt
  clear hU hV hsU hsV
  have hI0 : Hid (([] : List Nat).length = 0 ∧ Small [] ∧ val [] + bp 0 * 0 = val (U.take 0) + val (V.take 0)) := Lib.hid ⟨rfl, Small.nil, by simp [val]⟩
  go_enter Tryz.func102, Tryz.ntmps102
  go_wp2
  go_loopw [4, 10] (fun bv i wr => ∃ (k cr : Nat) (dn : List Nat), k ≤ n ∧ i = .int .i64 k ∧ bv = .int .i64 cr ∧ cr ≤ 2 ∧
      Hid (dn.length = k ∧ Small dn ∧ val dn + bp k * cr = val (U.take k) + val (V.take k)) ∧ Only g w wr ∧ Own wr g (pre ++ ((ni dn ++ ni (U.drop k)) ++ post))) (fun _ i _ => n - (intOf i).toNat)
  case atStart => exact ⟨0, 0, [], by omega, rfl, rfl, by omega, hI0, Only.refl _ _, by simpa [ni] using ho⟩
  case round =>
    clear ho hI0
    obtain ⟨k, cr, dn, hk, rfl, rfl, hcr, hI, hbw, ho⟩ := hrel
    have hgw : g < wr.heap.size := ho.lt
    by_cases hlk : k < n
    · obtain ⟨bk, off, rfl, hbk, hne, hx⟩ := hA.out (by omega)
      have hkU : k < U.length := by have := HU.out; omega
      have hkV : k < V.length := by have := HV.out; omega
      have h1 := (hbw.cell (p := ⟨bk, off + k, none⟩) hbk hne).trans (hx k hlk)
      rw [at0_nat hkV] at h1
      replace hx := Lib.hid hx
      obtain ⟨hi1, hi2, hi3⟩ := hI.out
      have hi1' : (ni dn).length = k := by rw [ni_length]; exact hi1
      rw [drop_cons hkU] at ho
      have h2 := own_at ho (pre.length + k) (by simp [ni]; omega)
      rw [get_mid hi1'] at h2
      have hf := ho.frozen (pre.length + k)
      have HLS := Lib.hid (more_step hkU hkV hi1 hi2 hi3)
      have HSET := Lib.hid (fun (m : Int) => (set_mid (pre := pre) (t := ni (U.drop (k + 1))) (post := post) (x := m) (y := (U[k] : Int)) hi1'))
      have hVk : V[k] < 1000000000 := HSV.out _ (List.getElem_mem hkV)
      have hUk : U[k] < 1000000000 := HSU.out _ (List.getElem_mem hkU)
      have hlen : pre.length + k < (pre ++ ((ni dn ++ (U[k] : Int) :: ni (U.drop (k + 1))) ++ post)).length := by simp [ni]; omega
      have HLEN := Lib.hid hlen
      have HO := Lib.hid ho
      clear hi1 hi2 hi3 hI ho hlen hi1'
      obtain ⟨x, hx1⟩ : ∃ x, x = V[k] := ⟨_, rfl⟩
      obtain ⟨u, hu1⟩ : ∃ u, u = U[k] := ⟨_, rfl⟩
      rw [← hx1] at h1 hVk HLS
      rw [← hu1] at h2 hUk HLS HSET HLEN HO
      clear hx1 hu1
      go_wp2
      go_roundw
      case rel =>
        have h4 := HO.out.set (pre.length + k) (((u + x + cr) % 1000000000 : Nat) : Int) HLEN.out
        rw [HSET.out] at h4
        have e : (((u + x + cr) % 1000000000 : Nat) : Int) = ((u : Int) + (x : Int) + (cr : Int)) % 1000000000 := by omega
        have e2 : ni dn ++ [(((u + x + cr) % 1000000000 : Nat) : Int)] = ni (dn ++ [(u + x + cr) % 1000000000]) := by simp [ni]
        rw [e2, e] at h4
        exact ⟨k + 1, (u + x + cr) / 1000000000, _, by omega, by go_num, by go_num, by omega, HLS, hbw.set _ _, h4⟩
      case measure => simp [intOf]; omega
    · obtain rfl : k = n := by omega
      have hkU : k < U.length := by have := HU.out; omega
      obtain ⟨hi1, hi2, hi3⟩ := hI.out
      have hi1' : (ni dn).length = k := by rw [ni_length]; exact hi1
      have HL := Lib.hid (more_last HU.out HV.out hi1 hi2 hi3)
      rw [drop_cons hkU, List.drop_eq_nil_of_le (by have := HU.out; omega)] at ho
      have h2 := own_at ho (pre.length + k) (by simp [ni]; omega)
      rw [get_mid hi1'] at h2
      have hf := ho.frozen (pre.length + k)
      have HSET := Lib.hid (fun (m : Int) => (set_mid (pre := pre) (t := ni []) (post := post) (x := m) (y := (U[k] : Int)) hi1'))
      have hUk : U[k] < 1000000000 := HSU.out _ (List.getElem_mem hkU)
      have hlen : pre.length + k < (pre ++ ((ni dn ++ (U[k] : Int) :: ni []) ++ post)).length := by simp [ni]; omega
      have HLEN := Lib.hid hlen
      have HO := Lib.hid ho
      clear hi1 hi2 hi3 hI ho hlen hi1'
      obtain ⟨u, hu1⟩ : ∃ u, u = U[k] := ⟨_, rfl⟩
      rw [← hu1] at h2 hUk HSET HLEN HO HL
      clear hu1
      go_wp2
      go_end0
      obtain ⟨e1, e2, e3⟩ := HL.out
      have h4 := HO.out.set (pre.length + k) (((u + cr) % 1000000000 : Nat) : Int) HLEN.out
      rw [HSET.out, show ni [] = [] from rfl, List.append_nil] at h4
      have e : (((u + cr) % 1000000000 : Nat) : Int) = ((u : Int) + (cr : Int)) % 1000000000 := by omega
      have e4 : ni dn ++ [(((u + cr) % 1000000000 : Nat) : Int)] = ni (dn ++ [(u + cr) % 1000000000]) := by simp [ni]
      rw [e4, e] at h4
      exact ⟨rfl, hbw.set _ _, _, e2, e1, h4, e3⟩
end Go.Proofs.YtnbanlmkoljghaaGreatDoor
