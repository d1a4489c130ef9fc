/- dec.Parse at this translation. -/
import Derived.Test.YtfklkphoplpebaaGreatDoorDecForm
import Derived.Test.YtfklkphoplpebaaGreatDoorDecW
import Derived.Test.YtfklkphoplpebaaGreatDoorDecA
namespace Go.Proofs.YtfklkphoplpebaaGreatDoor
open Go Go.RowKit Dig

/-- internal/bytealg.MaxLen holds some int. -/
def MaxL (w : World) : Prop := ∃ m : Int, w.cell? ⟨1, 0, none⟩ = some (.int .i64 m)
theorem MaxL.step {w w' : World} (h : MaxL w) (hb : Below w.heap.size w w') : MaxL w' := by
  obtain ⟨m, hm⟩ := h
  exact ⟨m, (hb.cell (cell_lt hm)).trans hm⟩
/-- What Parse answers. -/
noncomputable def parseD (s : List UInt8) (d : Int) : Int × Int := if 0 ≤ d ∧ d ≤ 18 then decP s d.toNat else (0, 2)
theorem Replace_any (s : ByteArray) (w : World) (hs : s.size ≤ 1000000) (M : MaxL w) :
    Calls Tryz.prog 38 #[.string s, .string ⟨#[46]⟩, .string ⟨#[]⟩, .int .i64 1] w fun e w' => Below w.heap.size w w' ∧ ∃ t : ByteArray, e = .returned (.string t) ∧ t.data.toList = Lib.replace s.data.toList [46] [] 1 := by
  obtain ⟨m, hm⟩ := M
  refine (Tryz.strings_Replace s ⟨#[46]⟩ ⟨#[]⟩ 1 m w (by omega) hm (by decide) (by show s.size + _ * 0 ≤ _; omega)).mono ?_
  rintro e w' ⟨he, hb⟩
  exact ⟨hb, _, he, rfl⟩
set_option linter.unusedSimpArgs false in
set_option maxRecDepth 100000 in
set_option maxHeartbeats 4000000 in
theorem DParse_any (w : World) (s : ByteArray) (d : Int) (hs : s.size ≤ 1000000) (hd0 : -9223372036854775808 ≤ d) (hd1 : d ≤ 9223372036854775807) (G : Glob w) (M : MaxL w) :
    Calls Tryz.prog 14 #[.string s, .int .i64 d] w fun e w' => Below w.heap.size w w' ∧ e = .returned (.tuple #[.int .i64 (parseD s.data.toList d).1, .int .i64 (parseD s.data.toList d).2]) := by
  obtain ⟨r, hr⟩ : ∃ r, r = parseD s.data.toList d := ⟨_, rfl⟩
  rw [← hr]
  have HR := Lib.hid hr; clear hr
  have HS := Lib.hid hs; clear hs
  have GG := Lib.hid G; have MM := Lib.hid M; clear G M
  by_cases hd : 0 ≤ d ∧ d ≤ 18
  · obtain ⟨k, rfl⟩ : ∃ k : Nat, d = (k : Int) := ⟨d.toNat, by omega⟩
    have HE := Lib.hid (show r = decP s.data.toList k by rw [HR.out]; unfold parseD; rw [if_pos hd, Int.toNat_natCast])
    have e1 : (0 : Int) ≤ (k : Int) := by omega
    have e2 : (k : Int) ≤ 18 := by omega
    clear hd HR
    go_enter Tryz.func14, Tryz.ntmps14
    go_wp2_with fail
    refine (form_any _ s HS.out).mono ?_
    rintro e w1 ⟨hb1, rfl⟩
    have HB1 := Lib.hid hb1; clear hb1
    by_cases hB : shpB s.data.toList = true
    · rw [formZ_good hB]
      dsimp only
      obtain ⟨p, hp⟩ : ∃ p, p = plc s.data.toList := ⟨_, rfl⟩
      rw [← hp]
      have HP := Lib.hid hp; have HBB := Lib.hid hB
      clear hp hB
      by_cases hk : k < p
      · have HZ := Lib.hid (show r = (0, 5) by rw [HE.out, decP_eq, if_pos (by rw [← HP.out]; exact hk)])
        have k1 : (k : Int) < (p : Int) := by omega
        clear hk HE
        go_wp2
        go_ret2
        exact ⟨HB1.out, by rw [HZ.out]; rfl⟩
      · obtain ⟨c, hc⟩ : ∃ c : Nat, (k : Int) - (p : Int) = (c : Int) := ⟨k - p, by omega⟩
        have k1 : ¬ (k : Int) < (p : Int) := by omega
        have k2 : (0 : Int) ≤ (k : Int) - (p : Int) := by omega
        have k3 : (0 : Int) ≤ (p : Int) := by omega
        have k4 : (p : Int) ≤ 18 := by omega
        have HC := Lib.hid (show c ≤ 1000000 by omega)
        have HCI := Lib.hid hc
        have HC18 := Lib.hid (show c ≤ 18 by omega)
        have HEQ := Lib.hid (show r = intZ (numS s.data.toList * (10 ^ c : Nat)) by
          rw [HE.out, decP_eq, if_neg (by rw [← HP.out]; omega), if_pos HBB.out, ← HP.out, show k - p = c by omega])
        clear hk hc HE
        go_wp2_with fail
        refine (Replace_any s _ HS.out (MM.out.step HB1.out)).mono ?_
        rintro e w2 ⟨hb2, t, rfl, ht⟩
        have HT := Lib.hid ht
        have HB2 := Lib.hid (HB1.out.trans (hb2.mono HB1.out.size)); clear hb2 ht
        go_wp2_with fail
        refine (Repeat_int _ c HCI.out _ HC.out).mono ?_
        rintro e w3 ⟨u, rfl, hu, hb3⟩
        have HU := Lib.hid hu
        have HB3 := Lib.hid (HB2.out.trans (hb3.mono HB2.out.size)); clear hb3 hu
        have hts : t.size ≤ 1000001 := by rw [Lib.size_eq, HT.out]; have h1 := parse_len HBB.out; rw [← Lib.size_eq] at h1; have h2 := HS.out; omega
        have hus : u.size ≤ 18 := by rw [Lib.size_eq, HU.out, List.length_replicate]; exact HC18.out
        have hcat : ¬ 9223372036854775807 < t.size + u.size := by omega
        have HTS := Lib.hid hts; have HUS := Lib.hid hus
        have HAT := Lib.hid (show Lib.atoiAll (t ++ u).data.toList = Lib.atoiAll (Lib.replace s.data.toList [46] [] 1 ++ List.replicate c 48) by rw [ByteArray.data_append, Array.toList_append, HT.out, HU.out])
        clear hts hus
        by_cases hin : -9223372036854775808 ≤ numS s.data.toList * (10 ^ c : Nat) ∧ numS s.data.toList * (10 ^ c : Nat) ≤ 9223372036854775807
        · obtain ⟨v, hv⟩ : ∃ v, v = numS s.data.toList * ((10 ^ c : Nat) : Int) := ⟨_, rfl⟩
          have HAV := Lib.hid (show Lib.atoiAll (t ++ u).data.toList = .ok v by rw [HAT.out, parse_atoi HBB.out c, if_pos hin, hv])
          have HZ := Lib.hid (show r = (v, 0) by rw [HEQ.out, hv]; unfold intZ; rw [if_pos hin])
          clear hin hv HAT HEQ
          go_wp2_with fail
          refine (Atoi_yes _ (by rw [ByteArray.size_append]; have := HTS.out; have := HUS.out; omega) v HAV.out _).mono ?_
          rintro e w4 ⟨rfl, hb4⟩
          have HB4 := Lib.hid (HB3.out.trans (hb4.mono HB3.out.size)); clear hb4
          go_wp2
          go_ret2
          exact ⟨HB4.out, by rw [HZ.out]; rfl⟩
        · have HAV := Lib.hid (show Lib.atoiAll (t ++ u).data.toList = .range by rw [HAT.out, parse_atoi HBB.out c, if_neg hin])
          have HZ := Lib.hid (show r = (0, 6) by rw [HEQ.out]; unfold intZ; rw [if_neg hin])
          clear hin HAT HEQ
          go_wp2_with fail
          refine (Atoi_big _ (by rw [ByteArray.size_append]; have := HTS.out; have := HUS.out; omega) HAV.out _ (GG.out.step HB3.out)).mono ?_
          rintro e w4 ⟨n, N, rfl, hb4⟩
          have HB4 := Lib.hid (HB3.out.trans (hb4.mono HB3.out.size)); clear hb4
          go_wp2
          go_ret2
          exact ⟨HB4.out, by rw [HZ.out]; rfl⟩
    · have hB : shpB s.data.toList = false := by simpa using hB
      rw [formZ_bad hB]
      dsimp only
      have HZ := Lib.hid (show r = (0, 5) by
        rw [HE.out, decP_eq]
        by_cases h : k < plc s.data.toList
        · rw [if_pos h]
        · rw [if_neg h, if_neg (by rw [hB]; decide)])
      clear hB HE
      go_wp2
      go_ret2
      exact ⟨HB1.out, by rw [HZ.out]; rfl⟩
  · have HZ := Lib.hid (show r = (0, 2) by rw [HR.out]; unfold parseD; rw [if_neg hd])
    by_cases h : d < 0
    · clear hd HR
      go_enter Tryz.func14, Tryz.ntmps14
      go_wp2
      go_ret2
      exact ⟨Below.refl _ _, by rw [HZ.out]; rfl⟩
    · have h2 : 18 < d := by omega
      clear hd HR
      go_enter Tryz.func14, Tryz.ntmps14
      go_wp2
      go_ret2
      exact ⟨Below.refl _ _, by rw [HZ.out]; rfl⟩
end Go.Proofs.YtfklkphoplpebaaGreatDoor
