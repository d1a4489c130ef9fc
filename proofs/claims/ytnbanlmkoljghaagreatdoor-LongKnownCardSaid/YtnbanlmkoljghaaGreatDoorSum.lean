/- Size.Plus, Minus, Times, Part: the walks. -/
import Derived.Test.YtnbanlmkoljghaaGreatDoorArith
import Derived.Test.YtnbanlmkoljghaaGreatDoorTrim
import Derived.Test.YtnbanlmkoljghaaGreatDoorClone
import Derived.BigQuiet
import Derived.Deep.QuietTactic
namespace Go.Proofs.YtnbanlmkoljghaaGreatDoor
open Go Go.RowKit Dig

set_option maxRecDepth 100000 in
set_option maxHeartbeats 4000000 in
theorem Plus_any (w : World) (va vb : Value) (a b : Nat) (ha : RN w w.heap.size va (dig a)) (hb : RN w w.heap.size vb (dig b)) (hl : (dig a).length ≤ 1000000) (hl' : (dig b).length ≤ 1000000) :
    Calls Tryz.prog 87 #[va, vb] w fun e w' => Below w.heap.size w w' ∧ ∃ v, e = .returned v ∧ RN w' w'.heap.size v (dig (a + b)) := by
  obtain ⟨A, ca, rfl, hca, hca', hA⟩ := ha.cell
  obtain ⟨Bb, cb, rfl, hcb, hcb', hB⟩ := hb.cell
  replace hA := Lib.hid hA
  replace hB := Lib.hid hB
  clear ha hb
  by_cases hlt : (dig a).length < (dig b).length
  · have hge : (dig a).length ≤ (dig b).length := by omega
    have hmk := mk_size ((dig b).length + 1) (by omega)
    simp only [Int.natCast_add, Int.natCast_one] at hmk
    have hsc : ((List.replicate ((dig b).length + 1) (0 : Int)).map (Value.int .i64)).length = (dig b).length + 1 := by simp
    have hsx : ((ni (dig b)).map (Value.int .i64)).length = (dig b).length := by simp [ni]
    have hown : Hid ((w.alloc (zerosObj ((dig b).length + 1))).heap[w.heap.size]? = some (.cells ((List.replicate ((dig b).length + 1) (0 : Int)).map (Value.int .i64)).toArray 3 (0, 0))) := Lib.hid (heap_alloc_new w _)
    have hb0 : Below w.heap.size w (w.alloc (zerosObj ((dig b).length + 1))) := (Below.refl _ _).alloc (Nat.le_refl _) _
    obtain ⟨cur, hcur⟩ : ∃ cur, cur = (List.replicate ((dig b).length + 1) (0 : Int)).map (Value.int .i64) := ⟨_, rfl⟩
    obtain ⟨cs, hcs⟩ : ∃ cs, cs = (ni (dig b)).map (Value.int .i64) := ⟨_, rfl⟩
    rw [← hcur] at hown hsc
    rw [← hcs] at hsx
    have HCUR := Lib.hid hcur
    have HCS := Lib.hid hcs
    clear hcur hcs
    have HSC := Lib.hid hsc
    have HSX := Lib.hid hsx
    clear hsc hsx
    go_enter Tryz.func87, Tryz.ntmps87
    go_wp2_with (with_reducible refine wpList_copy_splice rfl (.tmp 20) (.tmp 21) 79 79 rfl 3 Tryz.underlying79 (by kernel_rfl) (some ⟨w.heap.size, 0, none⟩) Bb ((dig b).length + 1) ((dig b).length + 1) (dig b).length cb rfl rfl w.heap.size 0 cur 3 hown.out cs ?c1 ?c2 ?c3 ?c4 w.heap.size w hb0 (Nat.le_refl _) ?_)
    case c1 => rw [HSX.out]; exact (Nat.min_eq_left (by omega)).symm
    case c2 =>
      intro hp
      rw [HSX.out] at hp
      obtain ⟨bk, off, rfl, hbk, hx⟩ := hB.out hp
      first | refine ⟨rfl, _, rfl, fun j v hj => ?_⟩ | refine ⟨_, rfl, fun j v hj => ?_⟩
      rw [HCS.out] at hj
      have hjl : j < (dig b).length := by have := (List.getElem?_eq_some_iff.1 hj).1; simpa [ni] using this
      rw [Addr.add_lit, hb0.cell (p := ⟨bk, off + j, none⟩) hbk, hx j hjl, ← hj]
      simp [ni, hjl]
    case c3 => rw [HSX.out, HSC.out]; omega
    case c4 => rw [HCS.out]; exact ints_oneCell _ _
    intro w1 hrow hb1
    have ho1 : Own w1 w.heap.size (ni (dig b) ++ [0]) := by
      refine ⟨[], ?_⟩
      have := hrow.out
      rw [HCUR.out, HCS.out] at this
      rw [this]
      simp [splice, ni, List.replicate_succ']
    clear hrow hown hb0
    have hA0 := Lib.hid (PlusA.start (y := dig a) (dig_small b))
    generalize hg : w.heap.size = g at *
    go_wp2
    go_loopw [25] (fun i wr => ∃ (k : Nat) (out : List Int), k ≤ (dig a).length ∧ i = .int .i64 k ∧ Hid (PlusA (dig b) (dig a) k out) ∧ Below g w wr ∧ Own wr g out) (fun i _ => (dig a).length - (intOf i).toNat)
    case atStart => exact ⟨0, _, by omega, rfl, hA0, hb1, ho1⟩
    case round =>
      clear hb1 ho1 hA0
      obtain ⟨k, out, hk, rfl, hP, hbw, ho⟩ := hrel
      have hgw : g < wr.heap.size := ho.lt
      have hlen := Lib.hid hP.out.len
      by_cases hlk : k < (dig a).length
      · obtain ⟨bk, off, rfl, hbk, hx⟩ := hA.out (by omega)
        have h1 := (hbw.cell (p := ⟨bk, off + k, none⟩) hbk).trans (hx k (by omega))
        replace hx := Lib.hid hx
        have hyk : (dig a)[k] < 1000000000 := dig_small a _ (List.getElem_mem hlk)
        have h2 := own_at ho k (by have := hlen.out; omega)
        have h2l := hP.out.lo k
        have h2h := hP.out.hi k
        have hf := ho.frozen k
        have HO := Lib.hid ho
        clear ho
        obtain ⟨z, hz⟩ : ∃ z, z = at0 out k := ⟨_, rfl⟩
        rw [← hz] at h2 h2l h2h
        have HZ := Lib.hid hz
        clear hz
        go_wp2
        go_roundw
        case rel =>
          have := HO.out.set k (z + ((dig a)[k] : Nat)) (by have := hlen.out; omega)
          exact ⟨k + 1, _, by omega, by go_num, Lib.hid (hP.out.step (dig_small a) hlk hge), hbw.setCell (Nat.le_refl _) _, by rw [← HZ.out]; exact this⟩
        case measure => simp [intOf]; omega
      · obtain rfl : k = (dig a).length := by omega
        have hB0 := Lib.hid (PlusB.start hP.out)
        clear hP
        go_wp2
        go_loopw [40] (fun i wr => ∃ (k : Nat) (out : List Int), k ≤ (dig b).length ∧ i = .int .i64 k ∧ Hid (PlusB (dig b) (dig a) k out) ∧ Below g w wr ∧ Own wr g out) (fun i _ => (dig b).length - (intOf i).toNat)
        case atStart => exact ⟨0, _, by omega, rfl, hB0, hbw, ho⟩
        case round =>
          clear hbw ho hB0 hlen hgw
          obtain ⟨k, out, hk, rfl, hP, hbw, ho⟩ := hrel
          have hgw : g < wr.heap.size := ho.lt
          have hlen := Lib.hid hP.out.len
          by_cases hlk : k < (dig b).length
          · have h2 := own_at ho k (by have := hlen.out; omega)
            have h3 := own_at ho (k + 1) (by have := hlen.out; omega)
            have h2l := hP.out.lo k
            have h2h := hP.out.here
            have h3l := hP.out.lo (k + 1)
            have h3h := hP.out.hi (k + 1) (by omega)
            have hf := ho.frozen k
            have hf3 := ho.frozen (k + 1)
            have HO := Lib.hid ho
            clear ho
            obtain ⟨z, hz⟩ : ∃ z, z = at0 out k := ⟨_, rfl⟩
            obtain ⟨z', hz'⟩ : ∃ z, z = at0 out (k + 1) := ⟨_, rfl⟩
            rw [← hz] at h2 h2l h2h
            rw [← hz'] at h3 h3l h3h
            have HZ := Lib.hid hz
            have HZ' := Lib.hid hz'
            clear hz hz'
            by_cases hc : 1000000000 ≤ z
            · go_wp2
              go_roundw
              case rel =>
                have h4 := (HO.out.set k (z - 1000000000) (by have := hlen.out; omega)).set (k + 1) (z' + 1) (by have := hlen.out; simp; omega)
                have h5 := hP.out.carry hlk (by rw [← HZ.out]; exact hc)
                rw [← HZ.out, ← HZ'.out] at h5
                exact ⟨k + 1, _, by omega, by go_num, Lib.hid h5, (hbw.setCell (Nat.le_refl _) _).setCell (Nat.le_refl _) _, h4⟩
              case measure => simp [intOf]; omega
            · have hc' : z < 1000000000 := by omega
              go_wp2
              go_roundw
              case rel => exact ⟨k + 1, _, by omega, by go_num, Lib.hid (hP.out.keep hlk (by rw [← HZ.out]; exact hc')), hbw, HO.out⟩
              case measure => simp [intOf]; omega
          · obtain rfl : k = (dig b).length := by omega
            obtain ⟨r, rfl, hrl, hrs, hrv⟩ := hP.out.fin
            have hrn := own_rn ho ((dig b).length + 1) ((dig b).length + 1) (by omega) (Nat.le_refl _) (by omega)
            have HRV := Lib.hid hrv
            clear hrv hlen hrl
            go_wp2_with (go_at_call 98; refine (Trim_any _ _ r hrn hrs).mono ?_; rintro e w2 ⟨hb2, v', rfl, hv'⟩)
            go_ret
            rw [HRV.out, val_dig, val_dig, Nat.add_comm] at hv'
            exact ⟨by rw [hg]; exact hbw.trans (hb2.mono (by omega)), _, rfl, hv'⟩
  · have hge : (dig b).length ≤ (dig a).length := by omega
    have hmk := mk_size ((dig a).length + 1) (by omega)
    simp only [Int.natCast_add, Int.natCast_one] at hmk
    have hsc : ((List.replicate ((dig a).length + 1) (0 : Int)).map (Value.int .i64)).length = (dig a).length + 1 := by simp
    have hsx : ((ni (dig a)).map (Value.int .i64)).length = (dig a).length := by simp [ni]
    have hown : Hid ((w.alloc (zerosObj ((dig a).length + 1))).heap[w.heap.size]? = some (.cells ((List.replicate ((dig a).length + 1) (0 : Int)).map (Value.int .i64)).toArray 3 (0, 0))) := Lib.hid (heap_alloc_new w _)
    have hb0 : Below w.heap.size w (w.alloc (zerosObj ((dig a).length + 1))) := (Below.refl _ _).alloc (Nat.le_refl _) _
    obtain ⟨cur, hcur⟩ : ∃ cur, cur = (List.replicate ((dig a).length + 1) (0 : Int)).map (Value.int .i64) := ⟨_, rfl⟩
    obtain ⟨cs, hcs⟩ : ∃ cs, cs = (ni (dig a)).map (Value.int .i64) := ⟨_, rfl⟩
    rw [← hcur] at hown hsc
    rw [← hcs] at hsx
    have HCUR := Lib.hid hcur
    have HCS := Lib.hid hcs
    clear hcur hcs
    have HSC := Lib.hid hsc
    have HSX := Lib.hid hsx
    clear hsc hsx
    go_enter Tryz.func87, Tryz.ntmps87
    go_wp2_with (with_reducible refine wpList_copy_splice rfl (.tmp 20) (.tmp 21) 79 79 rfl 3 Tryz.underlying79 (by kernel_rfl) (some ⟨w.heap.size, 0, none⟩) A ((dig a).length + 1) ((dig a).length + 1) (dig a).length ca rfl rfl w.heap.size 0 cur 3 hown.out cs ?c1 ?c2 ?c3 ?c4 w.heap.size w hb0 (Nat.le_refl _) ?_)
    case c1 => rw [HSX.out]; exact (Nat.min_eq_left (by omega)).symm
    case c2 =>
      intro hp
      rw [HSX.out] at hp
      obtain ⟨bk, off, rfl, hbk, hx⟩ := hA.out hp
      first | refine ⟨rfl, _, rfl, fun j v hj => ?_⟩ | refine ⟨_, rfl, fun j v hj => ?_⟩
      rw [HCS.out] at hj
      have hjl : j < (dig a).length := by have := (List.getElem?_eq_some_iff.1 hj).1; simpa [ni] using this
      rw [Addr.add_lit, hb0.cell (p := ⟨bk, off + j, none⟩) hbk, hx j hjl, ← hj]
      simp [ni, hjl]
    case c3 => rw [HSX.out, HSC.out]; omega
    case c4 => rw [HCS.out]; exact ints_oneCell _ _
    intro w1 hrow hb1
    have ho1 : Own w1 w.heap.size (ni (dig a) ++ [0]) := by
      refine ⟨[], ?_⟩
      have := hrow.out
      rw [HCUR.out, HCS.out] at this
      rw [this]
      simp [splice, ni, List.replicate_succ']
    clear hrow hown hb0
    have hA0 := Lib.hid (PlusA.start (y := dig b) (dig_small a))
    generalize hg : w.heap.size = g at *
    go_wp2
    go_loopw [25] (fun i wr => ∃ (k : Nat) (out : List Int), k ≤ (dig b).length ∧ i = .int .i64 k ∧ Hid (PlusA (dig a) (dig b) k out) ∧ Below g w wr ∧ Own wr g out) (fun i _ => (dig b).length - (intOf i).toNat)
    case atStart => exact ⟨0, _, by omega, rfl, hA0, hb1, ho1⟩
    case round =>
      clear hb1 ho1 hA0
      obtain ⟨k, out, hk, rfl, hP, hbw, ho⟩ := hrel
      have hgw : g < wr.heap.size := ho.lt
      have hlen := Lib.hid hP.out.len
      by_cases hlk : k < (dig b).length
      · obtain ⟨bk, off, rfl, hbk, hx⟩ := hB.out (by omega)
        have h1 := (hbw.cell (p := ⟨bk, off + k, none⟩) hbk).trans (hx k (by omega))
        replace hx := Lib.hid hx
        have hyk : (dig b)[k] < 1000000000 := dig_small b _ (List.getElem_mem hlk)
        have h2 := own_at ho k (by have := hlen.out; omega)
        have h2l := hP.out.lo k
        have h2h := hP.out.hi k
        have hf := ho.frozen k
        have HO := Lib.hid ho
        clear ho
        obtain ⟨z, hz⟩ : ∃ z, z = at0 out k := ⟨_, rfl⟩
        rw [← hz] at h2 h2l h2h
        have HZ := Lib.hid hz
        clear hz
        go_wp2
        go_roundw
        case rel =>
          have := HO.out.set k (z + ((dig b)[k] : Nat)) (by have := hlen.out; omega)
          exact ⟨k + 1, _, by omega, by go_num, Lib.hid (hP.out.step (dig_small b) hlk hge), hbw.setCell (Nat.le_refl _) _, by rw [← HZ.out]; exact this⟩
        case measure => simp [intOf]; omega
      · obtain rfl : k = (dig b).length := by omega
        have hB0 := Lib.hid (PlusB.start hP.out)
        clear hP
        go_wp2
        go_loopw [40] (fun i wr => ∃ (k : Nat) (out : List Int), k ≤ (dig a).length ∧ i = .int .i64 k ∧ Hid (PlusB (dig a) (dig b) k out) ∧ Below g w wr ∧ Own wr g out) (fun i _ => (dig a).length - (intOf i).toNat)
        case atStart => exact ⟨0, _, by omega, rfl, hB0, hbw, ho⟩
        case round =>
          clear hbw ho hB0 hlen hgw
          obtain ⟨k, out, hk, rfl, hP, hbw, ho⟩ := hrel
          have hgw : g < wr.heap.size := ho.lt
          have hlen := Lib.hid hP.out.len
          by_cases hlk : k < (dig a).length
          · have h2 := own_at ho k (by have := hlen.out; omega)
            have h3 := own_at ho (k + 1) (by have := hlen.out; omega)
            have h2l := hP.out.lo k
            have h2h := hP.out.here
            have h3l := hP.out.lo (k + 1)
            have h3h := hP.out.hi (k + 1) (by omega)
            have hf := ho.frozen k
            have hf3 := ho.frozen (k + 1)
            have HO := Lib.hid ho
            clear ho
            obtain ⟨z, hz⟩ : ∃ z, z = at0 out k := ⟨_, rfl⟩
            obtain ⟨z', hz'⟩ : ∃ z, z = at0 out (k + 1) := ⟨_, rfl⟩
            rw [← hz] at h2 h2l h2h
            rw [← hz'] at h3 h3l h3h
            have HZ := Lib.hid hz
            have HZ' := Lib.hid hz'
            clear hz hz'
            by_cases hc : 1000000000 ≤ z
            · go_wp2
              go_roundw
              case rel =>
                have h4 := (HO.out.set k (z - 1000000000) (by have := hlen.out; omega)).set (k + 1) (z' + 1) (by have := hlen.out; simp; omega)
                have h5 := hP.out.carry hlk (by rw [← HZ.out]; exact hc)
                rw [← HZ.out, ← HZ'.out] at h5
                exact ⟨k + 1, _, by omega, by go_num, Lib.hid h5, (hbw.setCell (Nat.le_refl _) _).setCell (Nat.le_refl _) _, h4⟩
              case measure => simp [intOf]; omega
            · have hc' : z < 1000000000 := by omega
              go_wp2
              go_roundw
              case rel => exact ⟨k + 1, _, by omega, by go_num, Lib.hid (hP.out.keep hlk (by rw [← HZ.out]; exact hc')), hbw, HO.out⟩
              case measure => simp [intOf]; omega
          · obtain rfl : k = (dig a).length := by omega
            obtain ⟨r, rfl, hrl, hrs, hrv⟩ := hP.out.fin
            have hrn := own_rn ho ((dig a).length + 1) ((dig a).length + 1) (by omega) (Nat.le_refl _) (by omega)
            have HRV := Lib.hid hrv
            clear hrv hlen hrl
            go_wp2_with (go_at_call 98; refine (Trim_any _ _ r hrn hrs).mono ?_; rintro e w2 ⟨hb2, v', rfl, hv'⟩)
            go_ret
            rw [HRV.out, val_dig, val_dig] at hv'
            exact ⟨by rw [hg]; exact hbw.trans (hb2.mono (by omega)), _, rfl, hv'⟩

set_option maxRecDepth 100000 in
set_option maxHeartbeats 4000000 in
theorem Minus_any (w : World) (va vb : Value) (a b : Nat) (ha : RN w w.heap.size va (dig a)) (hb : RN w w.heap.size vb (dig b)) (hl : (dig a).length ≤ 1000000) (hle : b ≤ a) :
    Calls Tryz.prog 89 #[va, vb] w fun e w' => Below w.heap.size w w' ∧ ∃ v, e = .returned v ∧ RN w' w'.heap.size v (dig (a - b)) := by
  have HRA := Lib.hid ha
  obtain ⟨A, ca, rfl, hca, hca', hA⟩ := ha.cell
  obtain ⟨Bb, cb, rfl, hcb, hcb', hB⟩ := hb.cell
  have hge : (dig b).length ≤ (dig a).length := dig_len_mono hle
  replace hB := Lib.hid hB
  clear ha hb hA
  go_enter Tryz.func89, Tryz.ntmps89
  go_wp2_with (go_at_call 103; refine (clone_size _ _ (ni (dig a)) HRA.out (by rw [ni_length]; omega)).mono ?_; rintro e w1 ⟨hb1, v1, rfl, hv1⟩)
  rcases hv1.form with ⟨rfl, hnil⟩ | ⟨g, cap, rfl, hcap, hcap', hg, ho1⟩
  · have hla : (dig a).length = 0 := by have := congrArg List.length hnil; rwa [ni_length] at this
    have hlb : (dig b).length = 0 := by omega
    have ha0 : a = 0 := dig_eq_nil.1 (List.eq_nil_of_length_eq_zero hla)
    have HA0 := Lib.hid ha0
    rw [hlb]
    clear hnil hla hlb ha0 hv1
    go_wp2
    go_loopw [13] (fun i wr => i = .int .i64 0 ∧ Below w.heap.size w wr) (fun _ _ => 0)
    case atStart => exact ⟨rfl, hb1⟩
    case round =>
      obtain ⟨rfl, hbw⟩ := hrel
      go_wp2
      go_loopw [28] (fun i wr => i = .int .i64 0 ∧ Below w.heap.size w wr) (fun _ _ => 0)
      case atStart => exact ⟨rfl, hbw⟩
      case round =>
        clear hbw
        obtain ⟨rfl, hbw⟩ := hrel
        go_wp2_with (go_at_call 98; refine (Trim_any _ _ [] (RI.nil _ _) Small.nil).mono ?_; rintro e w2 ⟨hb2, v', rfl, hv'⟩)
        go_ret
        refine ⟨hbw.trans (hb2.mono hbw.size), _, rfl, ?_⟩
        have : a - b = 0 := by have := HA0.out; omega
        rw [this]; exact hv'
  · simp only [ni_length] at hcap
    rw [ni_length]
    have hA0 := Lib.hid (MinusA.start (y := dig b) (dig_small a))
    clear hv1
    go_wp2
    go_loopw [13] (fun i wr => ∃ (k : Nat) (out : List Int), k ≤ (dig b).length ∧ i = .int .i64 k ∧ Hid (MinusA (dig a) (dig b) k out) ∧ Below w.heap.size w wr ∧ Own wr g out) (fun i _ => (dig b).length - (intOf i).toNat)
    case atStart => exact ⟨0, _, by omega, rfl, hA0, hb1, ho1⟩
    case round =>
      clear hb1 ho1 hA0
      obtain ⟨k, out, hk, rfl, hP, hbw, ho⟩ := hrel
      have hgw : g < wr.heap.size := ho.lt
      have hlen := Lib.hid hP.out.len
      by_cases hlk : k < (dig b).length
      · obtain ⟨bk, off, rfl, hbk, hx⟩ := hB.out (by omega)
        have h1 := (hbw.cell (p := ⟨bk, off + k, none⟩) hbk).trans (hx k (by omega))
        replace hx := Lib.hid hx
        have hyk : (dig b)[k] < 1000000000 := dig_small b _ (List.getElem_mem hlk)
        have h2 := own_at ho k (by have := hlen.out; omega)
        have h2l := hP.out.lo k
        have h2h := hP.out.hi k
        have hf := ho.frozen k
        have HO := Lib.hid ho
        clear ho
        obtain ⟨z, hz⟩ : ∃ z, z = at0 out k := ⟨_, rfl⟩
        rw [← hz] at h2 h2l h2h
        have HZ := Lib.hid hz
        clear hz
        go_wp2
        go_roundw
        case rel =>
          have := HO.out.set k (z - ((dig b)[k] : Nat)) (by have := hlen.out; omega)
          exact ⟨k + 1, _, by omega, by go_num, Lib.hid (hP.out.step (dig_small b) hlk hge), hbw.setCell hg _, by rw [← HZ.out]; exact this⟩
        case measure => simp [intOf]; omega
      · obtain rfl : k = (dig b).length := by omega
        have hB0 := Lib.hid (MinusB.start hP.out (by rw [val_dig, val_dig]; exact hle))
        clear hP
        go_wp2
        go_loopw [28] (fun i wr => ∃ (k : Nat) (out : List Int), k ≤ (dig a).length ∧ i = .int .i64 k ∧ Hid (MinusB (val (dig a) - val (dig b)) (dig a).length k out) ∧ Below w.heap.size w wr ∧ Own wr g out) (fun i _ => (dig a).length - (intOf i).toNat)
        case atStart => exact ⟨0, _, by omega, rfl, hB0, hbw, ho⟩
        case round =>
          clear hbw ho hB0 hlen hgw
          obtain ⟨k, out, hk, rfl, hP, hbw, ho⟩ := hrel
          have hgw : g < wr.heap.size := ho.lt
          have hlen := Lib.hid hP.out.len
          by_cases hlk : k < (dig a).length
          · have h2 := own_at ho k (by have := hlen.out; omega)
            have h2l := hP.out.lo k
            have h2h := hP.out.hi k
            have hf := ho.frozen k
            by_cases hc : at0 out k < 0
            · have hroom : k + 1 < (dig a).length := hP.out.room hlk hc
              have h3 := own_at ho (k + 1) (by have := hlen.out; omega)
              have h3l := hP.out.lo (k + 1)
              have h3h := hP.out.hi (k + 1)
              have hf3 := ho.frozen (k + 1)
              have HO := Lib.hid ho
              clear ho
              have h5 := Lib.hid (hP.out.borrow hroom hc)
              obtain ⟨z, hz⟩ : ∃ z, z = at0 out k := ⟨_, rfl⟩
              obtain ⟨z', hz'⟩ : ∃ z, z = at0 out (k + 1) := ⟨_, rfl⟩
              rw [← hz, ← hz'] at h5
              rw [← hz] at h2 h2l h2h hc
              rw [← hz'] at h3 h3l h3h
              clear hz hz'
              go_wp2
              go_roundw
              case rel =>
                have h4 := (HO.out.set k (z + 1000000000) (by have := hlen.out; omega)).set (k + 1) (z' - 1) (by have := hlen.out; simp; omega)
                exact ⟨k + 1, _, by omega, by go_num, h5, (hbw.setCell hg _).setCell hg _, h4⟩
              case measure => simp [intOf]; omega
            · have HO := Lib.hid ho
              clear ho
              have h5 := Lib.hid (hP.out.keep (by omega))
              obtain ⟨z, hz⟩ : ∃ z, z = at0 out k := ⟨_, rfl⟩
              rw [← hz] at h2 h2l h2h hc
              clear hz
              have hc' : 0 ≤ z := by omega
              go_wp2
              go_roundw
              case rel => exact ⟨k + 1, _, by omega, by go_num, h5, hbw, HO.out⟩
              case measure => simp [intOf]; omega
          · obtain rfl : k = (dig a).length := by omega
            obtain ⟨r, rfl, hrl, hrs, hrv⟩ := hP.out.fin
            have hrn := own_rn ho (dig a).length cap hrl.symm (by omega) (by omega)
            have HRV := Lib.hid hrv
            clear hrv hlen hrl
            go_wp2_with (go_at_call 98; refine (Trim_any _ _ r hrn hrs).mono ?_; rintro e w2 ⟨hb2, v', rfl, hv'⟩)
            go_ret
            rw [HRV.out, val_dig, val_dig] at hv'
            exact ⟨hbw.trans (hb2.mono hbw.size), _, rfl, hv'⟩

set_option maxRecDepth 100000 in
set_option maxHeartbeats 4000000 in
theorem Times_any (w : World) (va vb : Value) (a b : Nat) (ha : RN w w.heap.size va (dig a)) (hb : RN w w.heap.size vb (dig b)) (hl : (dig a).length ≤ 1000000) (hl' : (dig b).length ≤ 1000000) :
    Calls Tryz.prog 64 #[va, vb] w fun e w' => Below w.heap.size w w' ∧ ∃ v, e = .returned v ∧ RN w' w'.heap.size v (dig (a * b)) := by
  obtain ⟨A, ca, rfl, hca, hca', hA⟩ := ha.cell
  obtain ⟨Bb, cb, rfl, hcb, hcb', hB⟩ := hb.cell
  replace hA := Lib.hid hA
  replace hB := Lib.hid hB
  clear ha hb
  have hmk := mk_size ((dig a).length + (dig b).length) (by omega)
  simp only [Int.natCast_add] at hmk
  go_enter Tryz.func64, Tryz.ntmps64
  go_wp2
  have ho1 := own_new w ((dig a).length + (dig b).length)
  have hb1 : Below w.heap.size w (w.alloc (zerosObj ((dig a).length + (dig b).length))) := (Below.refl _ _).alloc (Nat.le_refl _) _
  generalize hg : w.heap.size = g at *
  generalize w.alloc (zerosObj ((dig a).length + (dig b).length)) = w1 at *
  have hT0 := Lib.hid (TimesA.start (dig a) (dig b))
  go_loopw [20] (fun i wr => ∃ (k : Nat) (out : List Int), k ≤ (dig a).length ∧ i = .int .i64 k ∧ Hid (TimesA (dig a) (dig b) k 0 0 out) ∧ Below g w wr ∧ Own wr g out) (fun i _ => (dig a).length - (intOf i).toNat)
  case atStart => exact ⟨0, _, by omega, rfl, hT0, hb1, ho1⟩
  case round =>
    clear hb1 ho1 hT0
    obtain ⟨i, out, hk, rfl, hP, hbw, ho⟩ := hrel
    have hgw : g < wr.heap.size := ho.lt
    by_cases hlk : i < (dig a).length
    · obtain ⟨bk, off, rfl, hbk, hx⟩ := hA.out (by omega)
      have h1 := (hbw.cell (p := ⟨bk, off + i, none⟩) hbk).trans (hx i (by omega))
      replace hx := Lib.hid hx
      have hxi : (dig a)[i] < 1000000000 := dig_small a _ (List.getElem_mem hlk)
      obtain ⟨x, hxx⟩ : ∃ x, x = (dig a)[i] := ⟨_, rfl⟩
      rw [← hxx] at h1 hxi
      have HXX := Lib.hid hxx
      clear hxx
      obtain ⟨wo, hwo⟩ : ∃ wo : World, wo = wr := ⟨_, rfl⟩
      subst hwo
      go_wp2
      go_loopw [8, 27] (fun cv i' wr => ∃ (k cr : Nat) (out : List Int), k ≤ (dig b).length ∧ i' = .int .i64 k ∧ cv = .int .i64 cr ∧ cr < 1000000000 ∧ Hid (TimesA (dig a) (dig b) i k cr out) ∧ Below g w wr ∧ Own wr g out) (fun _ i' _ => (dig b).length - (intOf i').toNat)
      case atStart => exact ⟨0, 0, _, by omega, rfl, rfl, by omega, hP, hbw, ho⟩
      case round =>
        clear hbw ho hP hgw h1
        obtain ⟨k, cr, out, hk', rfl, rfl, hcr, hP, hbw, ho⟩ := hrel
        have hgw : g < wr.heap.size := ho.lt
        have hlen := Lib.hid hP.out.len
        by_cases hlk' : k < (dig b).length
        · obtain ⟨bk', off', rfl, hbk', hx'⟩ := hB.out (by omega)
          have h1 := (hbw.cell (p := ⟨bk', off' + k, none⟩) hbk').trans (hx' k (by omega))
          replace hx' := Lib.hid hx'
          have hyk : (dig b)[k] < 1000000000 := dig_small b _ (List.getElem_mem hlk')
          obtain ⟨y, hyy⟩ : ∃ y, y = (dig b)[k] := ⟨_, rfl⟩
          rw [← hyy] at h1 hyk
          have HYY := Lib.hid hyy
          clear hyy
          have h2 := own_at ho (i + k) (by have := hlen.out; omega)
          have h2d := hP.out.dig (i + k)
          obtain ⟨o, hoo⟩ : ∃ o : Nat, at0 out (i + k) = (o : Int) := ⟨(at0 out (i + k)).toNat, by omega⟩
          have HS := Lib.hid (hP.out.step hlk hlk' o hoo)
          rw [hoo] at h2 h2d
          have h2h : o < 1000000000 := by omega
          have hf := ho.frozen (i + k)
          have HO := Lib.hid ho
          clear ho hoo h2d
          have hxy : x * y ≤ 999999999 * 999999999 := Nat.mul_le_mul (by omega) (by omega)
          have hxy1 : (x : Int) * (y : Int) ≤ 999999999 * 999999999 := by rw [← Int.natCast_mul]; omega
          have hxy0 : 0 ≤ (x : Int) * (y : Int) := by rw [← Int.natCast_mul]; omega
          go_wp2
          go_roundw
          case rel =>
            have e : (((o + x * y + cr) % 1000000000 : Nat) : Int) = ((o : Int) + (x : Int) * (y : Int) + (cr : Int)) % 1000000000 := by rw [← Int.natCast_mul]; omega
            have h4 := HO.out.set (i + k) (((o + x * y + cr) % 1000000000 : Nat) : Int) (by have := hlen.out; omega)
            have h5 := HS.out
            rw [← HXX.out, ← HYY.out] at h5
            rw [e] at h4 h5
            exact ⟨k + 1, (o + x * y + cr) / 1000000000, _, by omega, by go_num, by go_num, by omega, Lib.hid h5, hbw.setCell (Nat.le_refl _) _, h4⟩
          case measure => simp [intOf]; omega
        · obtain rfl : k = (dig b).length := by omega
          have h2 := own_at ho (i + (dig b).length) (by have := hlen.out; omega)
          have hf := ho.frozen (i + (dig b).length)
          have HN := Lib.hid (hP.out.next hlk hcr)
          have HO := Lib.hid ho
          clear ho
          go_wp2
          go_roundw
          case rel => exact ⟨i + 1, _, by omega, by go_num, HN, hbw.setCell (Nat.le_refl _) _, HO.out.set _ _ (by have := hlen.out; omega)⟩
          case measure => simp [intOf]; omega
    · obtain rfl : i = (dig a).length := by omega
      obtain ⟨r, rfl, hrl, hrs, hrv⟩ := hP.out.fin
      have hrn := own_rn ho ((dig a).length + (dig b).length) ((dig a).length + (dig b).length) (by omega) (by omega) (by omega)
      have HRV := Lib.hid hrv
      clear hrv hrl
      go_wp2_with (go_at_call 98; refine (Trim_any _ _ r hrn hrs).mono ?_; rintro e w2 ⟨hb2, v', rfl, hv'⟩)
      go_ret
      rw [HRV.out, val_dig, val_dig] at hv'
      exact ⟨by rw [hg]; exact hbw.trans (hb2.mono (by omega)), _, rfl, hv'⟩
end Go.Proofs.YtnbanlmkoljghaaGreatDoor
