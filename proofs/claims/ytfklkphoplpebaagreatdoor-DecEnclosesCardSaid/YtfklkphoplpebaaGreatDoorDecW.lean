/- dec.written at this translation: the text of a size and a number of places. -/
import Derived.Test.YtfklkphoplpebaaGreatDoorDec
import Derived.Test.YtfklkphoplpebaaGreatDoorDecP
import Derived.Test.YtfklkphoplpebaaGreatDoorEarly
import Derived.Test.YtfklkphoplpebaaGreatDoorOps
import Derived.Test.YtfklkphoplpebaaGreatDoorLow
import Derived.Deep.RegionHeld3
import Derived.Deep.DeepCutAuto
import Derived.Deep.QuietTactic
import Derived.BigQuiet
import Derived.IntWalk
namespace Go.Proofs.YtfklkphoplpebaaGreatDoor
open Go Go.RowKit Dig

theorem trim_zero (l : List UInt8) : Lib.trimRightS l [48] = trimZ l := by
  unfold Lib.trimRightS trimZ
  congr 2
  funext c
  simp [List.contains, List.elem]
  cases (c == 48) <;> simp
theorem zero_ascii (j : Nat) (b : UInt8) (h : (ByteArray.mk #[48]).data.toList[j]? = some b) : b.toNat < 128 := by
  have h1 : ∀ x ∈ (ByteArray.mk #[48]).data.toList, x.toNat < 128 := by decide
  exact h1 b (List.mem_of_getElem? h)
set_option maxRecDepth 1000000 in
theorem TrimRight_zeros (s : ByteArray) (w : World) (hs : s.size ≤ 9223372036854775807) :
    Calls Tryz.prog 72 #[.string s, .string ⟨#[48]⟩] w fun e w' => ∃ t : ByteArray, e = .returned (.string t) ∧ t.data.toList = trimZ s.data.toList ∧ Below w.heap.size w w' :=
  (Any.strings_TrimRight_laid Tryz.lays162 info_set s ⟨#[48]⟩ w hs (by show 1 < 4294967281; omega) zero_ascii).mono fun _ _ ⟨he, hb⟩ => ⟨_, he, by show Lib.trimRightS _ [48] = _; exact trim_zero _, hb⟩
theorem ext_list (s : ByteArray) (a b : Nat) : (s.extract a b).data.toList = (s.data.toList.take b).drop a := by
  simp [ByteArray.data_extract, List.drop_take]
theorem str_empty {t : ByteArray} : t.data.toList = [] ↔ t = ⟨#[]⟩ := by
  constructor
  · intro h; cases t with | mk d => simp at h; rw [h]
  · rintro rfl; rfl
theorem toL {t : ByteArray} {l : List UInt8} (h : t.data.toList = l) : t = ⟨l.toArray⟩ := by subst h; cases t; simp
theorem beq_str (s t : ByteArray) : (s.toList == t.toList) = decide (s.data.toList = t.data.toList) := by
  rw [Lib.toList_data, Lib.toList_data]
  by_cases h : s.data.toList = t.data.toList
  · rw [h]; simp
  · rw [decide_eq_false h]; exact beq_eq_false_iff_ne.2 h

set_option maxRecDepth 100000 in
set_option maxHeartbeats 2000000 in
/-- The text of whole part and places. -/
theorem written1_any (w : World) (b : Nat) (s : ByteArray) (W D : List UInt8) (hN : One w b 9 (.string s)) (n : Nat) (hn : n = W.length) (hl : s.data.toList = W ++ D) (hs : s.size ≤ 1000000) :
    Calls Tryz.prog 71 #[.int .i64 (n : Int), .pointer (some ⟨b, 0, none⟩)] w fun e w' => Below w.heap.size w w' ∧ ∃ t : ByteArray, e = .returned (.string t) ∧ t.data.toList = W ++ frac (trimZ D) := by
  have hsz : s.size = W.length + D.length := by rw [Lib.size_eq, hl, List.length_append]
  have hd : (s.extract n s.size).data.toList = D := by
    rw [ext_list, Lib.size_eq, List.take_length, hl, hn, List.drop_left]
  have ht : (s.extract 0 n).data.toList = W := by
    rw [ext_list, hl, hn, List.take_left, List.drop_zero]
  have h0 : (0 : Int) ≤ (n : Int) := by omega
  have h1 : (n : Int) ≤ (s.size : Int) := by omega
  have HS := Lib.hid hs; have HL := Lib.hid hl; have HN := Lib.hid hn; have HD := Lib.hid hd; have HT := Lib.hid ht; have HZ := Lib.hid hsz
  have q0 := hN.cell
  have hNN := Lib.hid hN
  clear hs hl hn hd ht hsz hN
  go_enter Tryz.func71, Tryz.ntmps71
  go_wp2_with fail
  refine (TrimRight_zeros _ _ ?_).mono ?_
  · rw [ByteArray.size_extract]; have := HS.out; omega
  rintro e w1 ⟨p, rfl, hp, hb1⟩
  rw [HD.out] at hp
  have HP := Lib.hid hp
  have q1 := (hNN.out.step hb1).cell
  have hpl : p.size ≤ D.length := by
    rw [Lib.size_eq, hp]; unfold trimZ; rw [List.length_reverse]
    exact Nat.le_trans (List.dropWhile_sublist _).length_le (by rw [List.length_reverse]; exact Nat.le_refl _)
  have HB := Lib.hid hb1
  by_cases hz : trimZ D = []
  · have e1 : p.toList = [] := by rw [Lib.toList_data, HP.out, hz]
    have e2 : (p.toList == (ByteArray.mk #[]).toList) = true := by rw [beq_str, HP.out, hz]; rfl
    have HZZ := Lib.hid hz
    clear hb1 q0 hp hpl hz
    go_wp2
    go_ret
    exact ⟨HB.out, _, rfl, by rw [HT.out, HZZ.out]; simp [frac]⟩
  · have e2 : (p.toList == (ByteArray.mk #[]).toList) = false := by rw [beq_str, HP.out]; exact decide_eq_false hz
    have e3 : p.toList ≠ [] := by rw [Lib.toList_data, HP.out]; exact hz
    have e4 : p.toList.isEmpty = false := by cases h : p.toList with
      | nil => exact absurd h e3
      | cons _ _ => rfl
    have HZZ := Lib.hid hz
    have hpn : ¬ 9223372036854775807 < min n s.size + 1 := by have := HS.out; omega
    have hpm : ¬ 9223372036854775807 < min n s.size + 1 + p.size := by have := HS.out; have := HZ.out; omega
    clear hb1 q0 hp hpl hz
    go_wp2
    go_ret
    refine ⟨HB.out, _, rfl, ?_⟩
    simp only [ByteArray.data_append, Array.toList_append, HT.out, HP.out]
    unfold frac
    rw [if_neg HZZ.out]
    simp
theorem Repeat_int (k : Int) (c : Nat) (hk : k = (c : Int)) (w : World) (hc : c ≤ 1000000) :
    Calls Tryz.prog 39 #[.string ⟨#[48]⟩, .int .i64 k] w fun e w' => ∃ t : ByteArray, e = .returned (.string t) ∧ t.data.toList = List.replicate c 48 ∧ Below w.heap.size w w' := by
  subst hk; exact (Repeat_zeros c w hc).mono fun _ _ ⟨he, hb⟩ => ⟨_, he, rfl, hb⟩
set_option linter.unusedSimpArgs false in
set_option maxRecDepth 100000 in
set_option maxHeartbeats 4000000 in
/-- The text of a number and a number of places. -/
theorem written_any (w : World) (z : Int) (s : ByteArray) (d : Nat) (hs : s.data.toList = Lib.itoa z) (hl : s.size ≤ 900000) (hd : d ≤ 18) :
    Calls Tryz.prog 32 #[.string s, .int .i64 (d : Int)] w fun e w' => Below w.heap.size w w' ∧ ∃ t : ByteArray, e = .returned (.string t) ∧ t.data.toList = decT z d := by
  have HS := Lib.hid hs; have HL := Lib.hid hl; have HD := Lib.hid hd
  clear hs hl
  go_enter Tryz.func32, Tryz.ntmps32
  go_wp2_with fail
  refine (Tryz.strings_TrimPrefix s ⟨#[45]⟩ _).mono ?_
  rintro e w1 ⟨rfl, rfl⟩
  obtain ⟨t, ht⟩ : ∃ t : ByteArray, t = ⟨(Lib.trimPrefix s.data.toList (ByteArray.mk #[45]).data.toList).toArray⟩ := ⟨_, rfl⟩
  rw [← ht]
  have htl : t.data.toList = Lib.decDigits z.natAbs := by rw [ht, ← bare_itoa, ← HS.out]; exact trimPrefix_dash _
  have hst : s.data.toList = sign z ++ t.data.toList := by
    rw [HS.out, htl]; unfold sign
    by_cases h : z < 0
    · rw [if_pos h, itoa_min h]; rfl
    · rw [if_neg h, itoa_pos (by omega)]; rfl
  have hts : t.size ≤ s.size := by rw [Lib.size_eq, Lib.size_eq, hst, List.length_append]; omega
  have h1 : 1 ≤ t.size := by rw [Lib.size_eq, htl]; exact dd_len_pos _
  have hsg : (s.extract 0 (s.size - t.size)).data.toList = sign z := by
    rw [ext_list, List.drop_zero, hst, show s.size - t.size = (sign z).length by rw [Lib.size_eq, Lib.size_eq, hst, List.length_append]; omega, List.take_left]
  have HT := Lib.hid htl; have HSG := Lib.hid hsg
  obtain ⟨c, hc⟩ : ∃ c : Nat, c = d + 1 - t.size := ⟨_, rfl⟩
  have hcc : max ((d : Int) + 1 - (t.size : Int)) 0 = (c : Int) := by omega
  have hc2 : c ≤ 1000000 := by omega
  have HCI := Lib.hid hcc; clear hcc
  have hls := HL.out
  have e1 : (0 : Int) ≤ (s.size : Int) - (t.size : Int) := by omega
  have e2 : (s.size : Int) - (t.size : Int) ≤ (s.size : Int) := by omega
  have e3 : ((s.size : Int) - (t.size : Int)).toNat = s.size - t.size := by omega
  clear ht htl hst hsg
  have HX := Lib.hid (show pad d z.natAbs = List.replicate c 48 ++ t.data.toList by unfold pad; rw [hc, Lib.size_eq, HT.out])
  have HCC := Lib.hid hc; have HC2 := Lib.hid hc2
  have e5 : (0 : Int) ≤ (d : Int) := by omega
  have e6 : (d : Int) ≤ 18 := by omega
  have e7 : (0 : Int) ≤ (t.size : Int) := by omega
  have e8 : (t.size : Int) ≤ 900000 := by omega
  have HT2 := Lib.hid (show t.size ≤ 900000 by omega)
  clear hc hc2 hd
  go_upto_region 3 with (fail)
  obtain ⟨w0, hw0⟩ : ∃ w0 : World, w0 = w1.alloc (.cells #[.string t] 9) := ⟨_, rfl⟩
  rw [← hw0]
  have HB0 := Lib.hid (show Below w1.heap.size w1 w0 by rw [hw0]; exact (Below.refl w1.heap.size w1).alloc (Nat.le_refl _) _)
  have N0 : One w0 w1.heap.size 9 (.string t) := by rw [hw0]; exact One.new w1 _ _
  have zz := N0.lt
  clear hw0
  have KS : ∀ w' : World, Below w0.heap.size w0 w' → (Below w0.heap.size w0 w' ∧ w'.cell? ⟨w1.heap.size, 0, none⟩ = some (.string t)) := fun w' h => ⟨h, (N0.step h).cell⟩
  refine Early.start 9 (fun w' => Below w0.heap.size w0 w' ∧ w'.cell? ⟨w1.heap.size, 0, none⟩ = some (.string t)) (by kernel_rfl) ?_
  refine Early.take (i := 0) (.int .i64 (d : Int)) rfl (by kernel_rfl) (by kernel_rfl) (by kernel_rfl) (by kernel_rfl) (by kernel_rfl) (fun _ _ _ h => h) (Or.inl ⟨by rfl, ?_⟩) ?_ ?_
  · intro w' hSw; obtain ⟨-, t0⟩ := hSw; go_simp
  · exact KS _ (below_drew1 (Below.refl _ _))
  (try simp only [Act.put, List.setIfInBounds_toArray, List.set_cons_zero, List.set_cons_succ])
  refine Early.take (i := 1) (.int .i64 ((d : Int) + 1)) rfl (by kernel_rfl) (by kernel_rfl) (by kernel_rfl) (by kernel_rfl) (by kernel_rfl) (fun _ _ _ h => h) (Or.inl ⟨by rfl, ?_⟩) ?_ ?_
  · intro w' hSw; obtain ⟨-, t0⟩ := hSw; go_simp; exact IntWalk.i64_in _ (by omega)
  · exact KS _ (below_drew1 (Below.refl _ _))
  (try simp only [Act.put, List.setIfInBounds_toArray, List.set_cons_zero, List.set_cons_succ])
  refine Early.take (i := 2) (.string t) rfl (by kernel_rfl) (by kernel_rfl) (by kernel_rfl) (by kernel_rfl) (by kernel_rfl) (fun _ _ _ h => h) (Or.inl ⟨by rfl, ?_⟩) ?_ ?_
  · intro w' hSw; obtain ⟨-, t0⟩ := hSw; go_simp
  · exact KS _ (below_drew1 (Below.refl _ _))
  (try simp only [Act.put, List.setIfInBounds_toArray, List.set_cons_zero, List.set_cons_succ])
  refine Early.take (i := 3) (.int .i64 (t.size : Int)) rfl (by kernel_rfl) (by kernel_rfl) (by kernel_rfl) (by kernel_rfl) (by kernel_rfl) (fun _ _ _ h => h) (Or.inl ⟨by rfl, ?_⟩) ?_ ?_
  · intro w' hSw; obtain ⟨-, t0⟩ := hSw; go_simp
  · exact KS _ (below_drew1 (Below.refl _ _))
  (try simp only [Act.put, List.setIfInBounds_toArray, List.set_cons_zero, List.set_cons_succ])
  refine Early.take (i := 4) (.int .i64 ((d : Int) + 1 - (t.size : Int))) rfl (by kernel_rfl) (by kernel_rfl) (by kernel_rfl) (by kernel_rfl) (by kernel_rfl) (fun _ _ _ h => h) (Or.inl ⟨by rfl, ?_⟩) ?_ ?_
  · intro w' hSw; obtain ⟨-, t0⟩ := hSw; go_simp; exact IntWalk.i64_in _ (by omega)
  · exact KS _ (below_drew1 (Below.refl _ _))
  (try simp only [Act.put, List.setIfInBounds_toArray, List.set_cons_zero, List.set_cons_succ])
  refine Early.take (i := 5) (.int .i64 (max ((d : Int) + 1 - (t.size : Int)) 0)) rfl (by kernel_rfl) (by kernel_rfl) (by kernel_rfl) (by kernel_rfl) (by kernel_rfl) (fun _ _ _ h => h) (Or.inl ⟨by rfl, ?_⟩) ?_ ?_
  · intro w' hSw; obtain ⟨-, t0⟩ := hSw; go_simp
  · exact KS _ (below_drew1 (Below.refl _ _))
  (try simp only [Act.put, List.setIfInBounds_toArray, List.set_cons_zero, List.set_cons_succ])
  refine Early.take (i := 7) (.string t) rfl (by kernel_rfl) (by kernel_rfl) (by kernel_rfl) (by kernel_rfl) (by kernel_rfl) (fun _ _ _ h => h) (Or.inl ⟨by rfl, ?_⟩) ?_ ?_
  · intro w' hSw; obtain ⟨-, t0⟩ := hSw; go_simp
  · exact KS _ (below_drew1 (Below.refl _ _))
  (try simp only [Act.put, List.setIfInBounds_toArray, List.set_cons_zero, List.set_cons_succ])
  refine Early.next (i := 6) (by kernel_rfl) rfl (fun K hK => ?_)
  go_simp
  (with_reducible refine (Repeat_int _ c HCI.out _ HC2.out).mono ?_)
  rintro e w2 ⟨rp, rfl, hrp, hb2⟩
  replace hb2 := below_undrew hb2
  have HRP := Lib.hid hrp; have HB2 := Lib.hid hb2
  refine hK _ _ (fun _ => KS _ HB2.out) ?_
  clear hK K
  (try simp only [Act.put, List.setIfInBounds_toArray, List.set_cons_zero, List.set_cons_succ])
  have hrs : rp.size = c := by rw [Lib.size_eq, hrp, List.length_replicate]
  have hcat : ¬ 9223372036854775807 < rp.size + t.size := by have := HC2.out; have := HT2.out; omega
  clear hrp hb2 hrs
  refine Early.take (i := 8) (.string (rp ++ t)) rfl (by kernel_rfl) (by kernel_rfl) (by kernel_rfl) (by kernel_rfl) (by kernel_rfl) (fun _ _ _ h => h) (Or.inl ⟨by rfl, ?_⟩) ?_ ?_
  · intro w' hSw; obtain ⟨-, t0⟩ := hSw; go_simp
  · exact KS _ (HB2.out)
  (try simp only [Act.put, List.setIfInBounds_toArray, List.set_cons_zero, List.set_cons_succ])
  have N2 := N0.step HB2.out
  have q0 := N2.cell; have q1 := N2.frozen; have zz2 := N2.lt
  refine Early.next (i := 9) (by kernel_rfl) rfl (fun K hK => ?_)
  go_simp
  refine hK _ _ (fun h => absurd h (by decide)) ?_
  clear hK K
  (try simp only [Act.put, List.setIfInBounds_toArray, List.set_cons_zero, List.set_cons_succ])
  refine Early.done (by kernel_rfl) ?_ _
  (try simp only [Exit.then])
  obtain ⟨w3, hw3⟩ : ∃ w3 : World, w3 = w2.setCell ⟨w1.heap.size, 0, none⟩ (.string (rp ++ t)) := ⟨_, rfl⟩
  rw [← hw3]
  have N3 : One w3 w1.heap.size 9 (.string (rp ++ t)) := by rw [hw3]; exact N2.set _
  have HB3 := Lib.hid (show Below w1.heap.size w1 w3 by rw [hw3]; exact (HB0.out.trans (HB2.out.mono HB0.out.size)).setCell (p := ⟨w1.heap.size, 0, none⟩) (Nat.le_refl _) _)
  have hPl : (rp ++ t).data.toList = Lib.decDigits (z.natAbs / 10 ^ d) ++ digs d z.natAbs := by
    rw [← pad_eq, HX.out, ByteArray.data_append, Array.toList_append, HRP.out]
  have hPs : (rp ++ t).size ≤ 1000000 := by
    rw [ByteArray.size_append, Lib.size_eq rp, HRP.out, List.length_replicate]; have h1 := HCC.out; have h2 := HT2.out; have h3 := HD.out; omega
  have hPn : (rp ++ t).size = (Lib.decDigits (z.natAbs / 10 ^ d)).length + d := by rw [Lib.size_eq, hPl, List.length_append, digs_len]
  clear hw3 N2 q0 q1 zz2 KS N0 zz HB0 HB2 hcat
  generalize rp ++ t = P at *
  obtain ⟨n, hn⟩ : ∃ n, n = (Lib.decDigits (z.natAbs / 10 ^ d)).length := ⟨_, rfl⟩
  rw [← hn] at hPn
  have e9 : (P.size : Int) - (d : Int) = (n : Int) := by omega
  have HPL := Lib.hid hPl; have HPS := Lib.hid hPs; have HNN := Lib.hid hn
  have q0 := N3.cell; have zz3 := N3.lt
  have hni : (0 : Int) ≤ (P.size : Int) - (d : Int) := by omega
  have hni2 : (P.size : Int) - (d : Int) ≤ 1000000 := by omega
  clear hPl hPn hn hPs
  go_wp2_with fail
  refine (written1_any _ w1.heap.size P _ _ N3 n HNN.out HPL.out HPS.out).mono ?_
  rintro e w4 ⟨hb4, u, rfl, hu⟩
  have hus : u.size ≤ 2000000 := by
    have h2 : (trimZ (digs d z.natAbs)).length ≤ d := by
      unfold trimZ; rw [List.length_reverse]
      exact Nat.le_trans (List.dropWhile_sublist _).length_le (by rw [List.length_reverse, digs_len]; exact Nat.le_refl _)
    have h3 : (frac (trimZ (digs d z.natAbs))).length ≤ d + 1 := by
      unfold frac; by_cases h : trimZ (digs d z.natAbs) = []
      · rw [if_pos h]; simp
      · rw [if_neg h, List.length_cons]; omega
    have h4 := HNN.out; have h5 := HD.out
    rw [Lib.size_eq, hu, List.length_append, ← h4]; omega
  have hc1 : ¬ 9223372036854775807 < s.size - t.size + u.size := by omega
  have hc2 : ¬ 9223372036854775807 < min (s.size - t.size) s.size + u.size := by omega
  have HU := Lib.hid hu; have HB4 := Lib.hid (HB3.out.trans (hb4.mono HB3.out.size))
  clear hb4 hu hus
  go_wp2
  go_ret
  exact ⟨HB4.out, _, rfl, by rw [ByteArray.data_append, Array.toList_append, HSG.out, HU.out, ← List.append_assoc]; rfl⟩
/-- What Text answers. -/
def textD (n d : Int) : List UInt8 × Int := if 0 ≤ d ∧ d ≤ 18 then (decT n d.toNat, 0) else ([], 2)
theorem dd_le (m : Nat) (h : m < 10 ^ 30) : (Lib.decDigits m).length ≤ 30 := by rw [Lib.decDigits_length]; exact (nd_le (by omega)).2 h
theorem itoa_len31 (n : Int) (h0 : -9223372036854775808 ≤ n) (h1 : n ≤ 9223372036854775807) : (Lib.itoa n).length ≤ 31 := by
  have h : (Lib.decDigits n.natAbs).length ≤ 30 := dd_le _ (by omega)
  by_cases hn : n < 0
  · rw [itoa_min hn, List.length_cons]; omega
  · rw [itoa_pos (by omega)]; omega
set_option maxRecDepth 100000 in
set_option maxHeartbeats 2000000 in
theorem DText_any (w : World) (n d : Int) (h0 : -9223372036854775808 ≤ n) (h1 : n ≤ 9223372036854775807) (hd0 : -9223372036854775808 ≤ d) (hd1 : d ≤ 9223372036854775807) (G : Glob w) :
    Calls Tryz.prog 12 #[.int .i64 n, .int .i64 d] w fun e w' => Below w.heap.size w w' ∧ ∃ t : ByteArray, e = .returned (.tuple #[.string t, .int .i64 (textD n d).2]) ∧ t.data.toList = (textD n d).1 := by
  by_cases hd : 0 ≤ d ∧ d ≤ 18
  · obtain ⟨k, rfl⟩ : ∃ k : Nat, d = (k : Int) := ⟨d.toNat, by omega⟩
    have HT := Lib.hid (show textD n (k : Int) = (decT n k, 0) by unfold textD; rw [if_pos hd, Int.toNat_natCast])
    rw [HT.out]
    have e1 : (0 : Int) ≤ (k : Int) := by omega
    have e2 : (k : Int) ≤ 18 := by omega
    have HK := Lib.hid (show k ≤ 18 by omega)
    have HL := Lib.hid (itoa_len31 n h0 h1)
    clear hd
    go_enter Tryz.func12, Tryz.ntmps12
    go_wp2_with fail
    refine (Itoa_any n h0 h1 _ G).mono ?_
    rintro e w1 ⟨rfl, hb1⟩
    have HB1 := Lib.hid hb1; clear hb1
    go_wp2_with fail
    refine (written_any _ n _ k rfl (by rw [Lib.size_eq]; have := HL.out; show (Lib.itoa n).toArray.toList.length ≤ _; simp; omega) HK.out).mono ?_
    rintro e w2 ⟨hb2, t, rfl, ht⟩
    have HB2 := Lib.hid (HB1.out.trans (hb2.mono HB1.out.size)); clear hb2
    go_wp2
    go_ret2
    exact ⟨HB2.out, _, rfl, ht⟩
  · have HT := Lib.hid (show textD n d = ([], 2) by unfold textD; rw [if_neg hd])
    rw [HT.out]
    by_cases h : d < 0
    · clear hd
      go_enter Tryz.func12, Tryz.ntmps12
      go_wp2
      go_ret2
      exact ⟨Below.refl _ _, _, rfl, rfl⟩
    · have h2 : 18 < d := by omega
      clear hd
      go_enter Tryz.func12, Tryz.ntmps12
      go_wp2
      go_ret2
      exact ⟨Below.refl _ _, _, rfl, rfl⟩
end Go.Proofs.YtfklkphoplpebaaGreatDoor
