/- long.Parse. -/
import Derived.Test.YtnbanlmkoljghaaGreatDoorInt
namespace Go.Proofs.YtnbanlmkoljghaaGreatDoor
open Go Go.RowKit Dig

theorem trimPrefix_dash (l : List UInt8) : Lib.trimPrefix l [45] = bare l := by
  unfold Lib.trimPrefix Lib.hasPrefix
  cases l with
  | nil => rfl
  | cons c r =>
    by_cases hc : c = 45
    · subst hc
      rw [bare_dash, if_pos (by rw [List.isPrefixOf_iff_prefix]; exact ⟨r, rfl⟩)]; rfl
    · rw [bare_other r hc, if_neg]
      rw [List.isPrefixOf_iff_prefix]
      rintro ⟨t, ht⟩
      exact hc (List.cons.inj ht).1.symm
theorem bare_len (l : List UInt8) : (bare l).length ≤ l.length := by
  cases l with
  | nil => exact Nat.le_refl _
  | cons c r =>
    by_cases hc : c = 45
    · subst hc; rw [bare_dash]; simp
    · rw [bare_other r hc]; exact Nat.le_refl _

theorem ba_head {t : ByteArray} {c : UInt8} {r : List UInt8} (ht : t.data.toList = c :: r) (hp : 0 < t.size) : t[0]'hp = c := by
  obtain ⟨⟨l⟩⟩ := t
  simp at ht
  subst ht
  rfl
theorem sgn_neg (b : Bool) (n : Nat) (h : 0 < n) : b = decide (sgn b n < 0) := by
  cases b
  · simp [sgn]
  · simp [sgn]; omega
theorem sgn_abs (b : Bool) (n : Nat) : (sgn b n).natAbs = n := by unfold sgn; cases b <;> simp

set_option maxRecDepth 100000 in
set_option maxHeartbeats 2000000 in
theorem Parse_any (w : World) (s : ByteArray) (hs : s.size ≤ 1000000) :
    Calls Tryz.prog 38 #[.string s] w fun e w' => Below w.heap.size w w' ∧ RetL w' (parseZ s.data.toList) e := by
  obtain ⟨i0, hi, hz0, hz1, hz2⟩ := info_parts info_int
  obtain ⟨r, hr⟩ : ∃ r, r = parseZ s.data.toList := ⟨_, rfl⟩
  rw [← hr]
  replace hr := Lib.hid hr
  have L0 := LB.new w (.bool false) (.slice none 0 0)
  have HB0 := Lib.hid ((Below.refl w.heap.size w).alloc (Nat.le_refl _) (.cells #[.bool false, .slice none 0 0] 24))
  have qa0 := L0.cell0
  have qa1 := L0.cell1
  have qa2 := L0.frozen 0
  have qa3 := L0.frozen 1
  go_enter Tryz.func38, Tryz.ntmps38
  go_wp2_with fail
  refine (Tryz.strings_TrimPrefix s ⟨#[45]⟩ _).mono ?_
  rintro e w1 ⟨rfl, rfl⟩
  obtain ⟨t, ht⟩ : ∃ t : ByteArray, t = ⟨(Lib.trimPrefix s.data.toList (ByteArray.mk #[45]).data.toList).toArray⟩ := ⟨_, rfl⟩
  rw [← ht]
  have htl : t.data.toList = bare s.data.toList := by rw [ht]; exact trimPrefix_dash _
  have hts : t.size ≤ s.size := by rw [Lib.size_eq, Lib.size_eq, htl]; exact bare_len _
  have HT := Lib.hid htl
  clear ht htl
  go_wp2_with fail
  · have h0 : t.toList = [] := by assumption
    (try simp only [Exit.inBlock, Exit.then])
    have HE : r = (0, 5) := by rw [hr.out, parseZ_none (canon_empty (by rw [← HT.out, ← Lib.toList_data]; exact h0))]
    exact end_none rfl L0 HB0.out HE rfl rfl
  · have h0 : ¬ t.toList = [] := by assumption
    have H0 := Lib.hid (show bare s.data.toList ≠ [] by rw [← HT.out, ← Lib.toList_data]; exact h0)
    refine (TrimS_any t _ (by omega)).mono ?_
    rintro e w2 ⟨u, rfl, hu, hb2⟩
    have L2 := L0.step hb2
    have HB2 := Lib.hid (HB0.out.trans (hb2.mono (by simp)))
    have HU := Lib.hid hu
    clear hb2 hu qa0 qa1 qa2 qa3
    have qa0 := L2.cell0
    have qa1 := L2.cell1
    have qa2 := L2.frozen 0
    have qa3 := L2.frozen 1
    have hp : 0 < t.size := by
      rw [Lib.size_eq, HT.out]; exact List.length_pos_iff.2 H0.out
    have hti : t.toList.isEmpty = false := by
      rw [Lib.toList_data, HT.out]; have := H0.out; revert this; cases bare s.data.toList <;> simp
    clear h0
    by_cases hd : AllDig (bare s.data.toList)
    · have hu0 : u.toList = [] := by rw [Lib.toList_data]; exact HU.out.2 (by rw [HT.out]; exact hd)
      obtain ⟨c, rr, hcr⟩ : ∃ c rr, bare s.data.toList = c :: rr := by
        have := H0.out
        revert this
        cases bare s.data.toList with
        | nil => intro h; exact absurd rfl h
        | cons c rr => intro _; exact ⟨c, rr, rfl⟩
      have hc0 : (t[0]'hp) = c := ba_head (by rw [HT.out]; exact hcr) hp
      have HD := Lib.hid hd
      have HCR := Lib.hid hcr
      clear hd hcr
      by_cases h48 : c = 48
      · subst h48
        have hc1 : (((t[0]'hp).toNat : Nat) : Int) = 48 := by rw [hc0]; rfl
        clear hc0
        by_cases hs1 : s.data.toList = [48]
        · have hs2 : (s.toList == [48]) = true := by rw [Lib.toList_data, hs1]; rfl
          have HE := Lib.hid (show r = (0, 0) by rw [hr.out, hs1]; exact parseZ_some canon_zero (by decide +kernel))
          have hsz : t.size ≤ 5400 := by
            have : s.size = 1 := by rw [Lib.size_eq, hs1]; rfl
            omega
          clear hs1
          go_wp2
          (try simp only [Exit.inBlock, Exit.then])
          exact end_zero rfl L2 HB2.out (Nat.le_refl _) HE.out rfl rfl
        · have hs2 : (s.toList == [48]) = false := by rw [Lib.toList_data]; simpa using hs1
          have HE := Lib.hid (show r = (0, 5) by rw [hr.out]; exact parseZ_none (canon_lead HCR.out hs1))
          clear hs1
          go_wp2
          (try simp only [Exit.inBlock, Exit.then])
          exact end_zero rfl L2 HB2.out (Nat.le_refl _) HE.out rfl rfl
      · have hc1 : ¬ (((t[0]'hp).toNat : Nat) : Int) = 48 := by
          rw [hc0]; intro h; exact h48 (UInt8.toNat_inj.1 (by rw [show (48 : UInt8).toNat = 48 from rfl]; omega))
        have hs2 : (s.toList == [48]) = false := by
          rw [Lib.toList_data]
          have : ¬ s.data.toList = [48] := fun e => by
            have h1 := HCR.out
            rw [e] at h1
            exact h48 (List.cons.inj h1).1.symm
          simpa using this
        have HC := Lib.hid (canon_num HCR.out HD.out h48)
        have HNP := Lib.hid (show 0 < num (bare s.data.toList) by rw [HCR.out]; exact num_pos (HD.out c (by rw [HCR.out]; exact List.mem_cons_self ..)) h48)
        have HDD := Lib.hid (dd_of HCR.out HD.out h48 rfl)
        clear hc0 h48
        by_cases hbig : 5400 < t.size
        · have hbig' : (5400 : Int) < t.size := by omega
          have HE := Lib.hid (show r = (0, 6) by
            rw [hr.out]
            refine parseZ_long HC.out ?_
            rw [sgn_abs, ← dd_len_dig _ 600 (by omega), HDD.out, ← HT.out, ← Lib.size_eq]; omega)
          clear hbig
          go_wp2
          (try simp only [Exit.inBlock, Exit.then])
          exact end_zero rfl L2 HB2.out (Nat.le_refl _) HE.out rfl rfl
        · have hsm : (t.size : Int) ≤ 5400 := by omega
          clear hbig
          obtain ⟨T, hTT⟩ : ∃ T, T = bare s.data.toList := ⟨_, rfl⟩
          obtain ⟨z, hz⟩ : ∃ z, z = sgn (decide (bare s.data.toList ≠ s.data.toList)) (num (bare s.data.toList)) := ⟨_, rfl⟩
          have hza : z.natAbs = num T := by rw [hz, sgn_abs, hTT]
          have hlen : (dig (num T)).length ≤ 600 := by
            rw [hTT, ← dd_len_dig _ 600 (by omega), HDD.out, ← HT.out, ← Lib.size_eq]; omega
          have HE := Lib.hid (show r = (z, 0) by rw [hr.out, hz]; exact parseZ_some HC.out (by rw [← hz, hza]; exact hlen))
          have HQ := Lib.hid (show (!(t.toList == s.toList)) = decide (z < 0) by
            rw [hz, ← sgn_neg _ _ HNP.out, Lib.toList_data, Lib.toList_data, HT.out]
            by_cases hb : bare s.data.toList = s.data.toList <;> simp [hb])
          have HTT := Lib.hid (show t.data.toList = T by rw [HT.out, hTT])
          have HDT := Lib.hid (show AllDig T by rw [hTT]; exact HD.out)
          have HN0 := Lib.hid (show ∃ c rr, T = c :: rr ∧ c ≠ 48 from ⟨c, rr, by rw [hTT]; exact HCR.out, fun e => hc1 (by rw [ba_head (t := t) (by rw [HT.out]; exact HCR.out) hp, e]; rfl)⟩)
          have HZA := Lib.hid hza
          have HLN := Lib.hid hlen
          have htn : t.size = T.length := by rw [Lib.size_eq, HTT.out]
          have HTN := Lib.hid htn
          clear hr HT HD HCR HC HNP HDD hz hza hlen hTT htn
          go_wp2
          generalize (!(t.toList == s.toList)) = q at *
          have La := L2.alloc (.cells #[.bool q, .slice none 0 0] 24)
          have Lb := LB.new w2 (.bool q) (.slice none 0 0)
          have HB3 := HB2.out.alloc HB2.out.size (.cells #[.bool q, .slice none 0 0] 24)
          have hsz : w.heap.size < w2.heap.size := L2.lt
          have HS3 := Lib.hid (show w2.heap.size + 1 ≤ (w2.alloc (.cells #[.bool q, .slice none 0 0] 24)).heap.size by simp)
          clear L2 HB2 qa0 qa1 qa2 qa3 hu0 HU hti hc1 hs2
          go_loopw [6] (fun i wr => ∃ (x : Int) (ds : List Nat) (v : Value), i = .int .i64 x ∧ -9 ≤ x ∧ x ≤ t.size ∧ Hid (dig (num T) = ds ++ dig (num (T.take x.toNat))) ∧ Hid (ds.length ≤ 600) ∧ LB wr w.heap.size (.bool false) (.slice none 0 0) ∧ LB wr w2.heap.size (.bool q) v ∧ Hid (OwnV wr (w2.heap.size + 1) v (ni ds)) ∧ Hid (w2.heap.size + 1 ≤ wr.heap.size) ∧ Below w.heap.size w wr) (fun i _ => (intOf i).toNat)
          case atStart => exact ⟨_, [], _, rfl, by omega, Int.le_refl _, Lib.hid (by rw [Int.toNat_natCast, HTN.out, List.take_length]; rfl), Lib.hid (by simp), La, Lb, Lib.hid (OwnV.nil _ _), HS3, HB3⟩
          case round =>
            clear La Lb HB3 HS3
            obtain ⟨x, ds, v, rfl, hx0, hx1, hd, hlen, L0, L1, ho, hsz', hbw⟩ := hrel
            by_cases hxp : x ≤ 0
            · have HDS := Lib.hid (show ni (dig z.natAbs) = ni ds by rw [HZA.out, hd.out, show x.toNat = 0 by omega]; simp [num, dig_zero])
              have HB := Lib.hid hbw
              have HRI := Lib.hid ho.out.ri
              have hri := ho.out.ri
              obtain ⟨A, c, rfl, -⟩ := hri
              have qa0 := L1.cell0
              have qa1 := L1.cell1
              have qb0 := L0.cell0
              have qb1 := L0.cell1
              have qb2 := L0.frozen 0
              have qb3 := L0.frozen 1
              clear hbw hd hlen hx0
              go_wp2
              (try simp only [Exit.inBlock, Exit.then])
              exact end_put rfl L0 HB.out (Nat.le_refl _) (by rw [HDS.out]; exact HRI.out) HQ.out HE.out rfl rfl
            · obtain ⟨e, rfl⟩ : ∃ e : Nat, x = e := ⟨x.toNat, by omega⟩
              have he0 : 0 < e := by omega
              have heT : e ≤ t.size := by omega
              have hmx : max ((e : Int) - 9) 0 = ((e - 9 : Nat) : Int) := by omega
              have HB := Lib.hid hbw
              clear hbw hxp hx0
              go_wp2_with fail
              have hsl : (t.extract (e - 9) e).data.toList = (T.take e).drop (e - 9) := by rw [Lib.extract_data, HTT.out, List.drop_take]
              have hll : ((T.take e).drop (e - 9)).length = e - (e - 9) := by have := HTN.out; simp; omega
              have hne : (T.take e).drop (e - 9) ≠ [] := fun h => by rw [h] at hll; simp at hll; omega
              have hal : AllDig ((T.take e).drop (e - 9)) := (HDT.out.take e).drop (e - 9)
              have hn9 : num ((T.take e).drop (e - 9)) < 1000000000 := Nat.lt_of_lt_of_le (num_lt hal) (by
                rw [hll]; exact Nat.pow_le_pow_right (show 0 < 10 by omega) (show e - (e - 9) ≤ 9 by omega))
              have hat : Lib.atoiAll (t.extract (e - 9) e).data.toList = .ok ((num ((T.take e).drop (e - 9)) : Nat) : Int) := by rw [hsl, atoi_dig hne hal, if_pos (by omega)]
              have hpc : dig (num (T.take e)) = num ((T.take e).drop (e - 9)) :: dig (num (T.take (e - 9))) := by
                refine dig_piece HDT.out (by have := HTN.out; omega) ?_
                obtain ⟨c, rr, hT, hc⟩ := HN0.out
                have h1 : T.take e = c :: rr.take (e - 1) := by rw [hT]; cases e with
                  | zero => omega
                  | succ e => rfl
                rw [h1]
                exact Nat.ne_of_gt (num_pos (HDT.out c (by rw [hT]; exact List.mem_cons_self ..)) hc)
              have hsz9 : (t.extract (e - 9) e).size ≤ 9223372036854775806 := by rw [Lib.size_eq, hsl, hll]; omega
              obtain ⟨d, hdd⟩ : ∃ d, d = num ((T.take e).drop (e - 9)) := ⟨_, rfl⟩
              rw [← hdd] at hn9 hat hpc
              have HAT := Lib.hid hat
              have HSZ9 := Lib.hid hsz9
              have HPC := Lib.hid hpc
              have hdi : (d : Int) < 1000000000 := by omega
              clear hsl hll hne hal hn9 hat hpc hsz9 hdd
              refine (Atoi_yes (t.extract (e - 9) e) HSZ9.out _ HAT.out _).mono ?_
              rintro en w5 ⟨rfl, hb5⟩
              have L05 := L0.step hb5
              have L15 := L1.step hb5
              have HO5 := Lib.hid (OwnV.step ho.out hb5)
              have HB5 := Lib.hid (HB.out.trans (hb5.mono HB.out.size))
              have HS5 := Lib.hid (Nat.le_trans hsz'.out hb5.size)
              clear hb5 L0 L1 ho HB hsz' hmx
              have qa0 := L15.cell0
              have qa1 := L15.cell1
              have hown := HO5.out.alloc (.cells #[.int .i64 (d : Int)] 3)
              have hl6 := hlen.out
              go_wp2_with (at_builtin; refine wpList_append_own_at _ rfl _ _ 22 rfl (w2.heap.size + 1) 3 i0 (.int .i64 0) 1 8 Tryz.underlying22 hi hz0 hz1 hz2 rfl (by decide) v (ni ds).length ((ni ds).map (Value.int .i64)) rfl hown ⟨w5.heap.size, 0, none⟩ 1 1 [.int .i64 (d : Int)] rfl rfl (cell_one_new _ _ _) (by intro u hu; simp at hu; subst hu; rfl) (by rw [ni_length]; unfold maxLen; omega) (by rw [ni_length]; omega) (by have := HS5.out; simp; omega) ?_)
              intro v' w' hown' hgrow hne hblk
              have hv' : OwnV w' (w2.heap.size + 1) v' (ni (ds ++ [d])) := by
                have h := hown'
                rw [OwnV, ni_length, List.length_append]
                rw [ni_length] at h
                have e : (ni (ds ++ [d])).map (Value.int .i64) = (ni ds).map (Value.int .i64) ++ [.int .i64 (d : Int)] := by simp [ni]
                rw [e]
                exact h
              have hrow : ∀ b, b < w2.heap.size + 1 → v.ownBlock ≠ some b := fun b hb he => by
                have := (World.ownsRow.lt HO5.out b he).1
                omega
              have M0 := (L05.alloc (.cells #[.int .i64 (d : Int)] 3)).grown hgrow (hrow _ (by omega))
              have M1 := (L15.alloc (.cells #[.int .i64 (d : Int)] 3)).grown hgrow (hrow _ (by omega))
              have HB6 := Lib.hid ((HB5.out.alloc HB5.out.size (.cells #[.int .i64 (d : Int)] 3)).grown hgrow (by have := HB5.out.size; simp; omega) (fun g he => by have := (World.ownsRow.lt HO5.out g he).1; omega))
              have HS6 := Lib.hid (show w2.heap.size + 1 ≤ w'.heap.size by have h1 := hgrow.size; have h2 := HS5.out; simp at h1; omega)
              have HV := Lib.hid (hv'.setBelow (p := ⟨w2.heap.size, 1, none⟩) (by simp) v')
              have N0 := M0.far (p := ⟨w2.heap.size, 1, none⟩) (by simp; omega) v'
              have N1 := M1.set1 v'
              have HB7 := Lib.hid (HB6.out.setCell (p := ⟨w2.heap.size, 1, none⟩) (by simp; omega) v')
              clear hown' hgrow hne hblk hown qa0 qa1 L05 L15 HO5
              have qa2 := M1.frozen 1
              have qa1 := M1.cell1
              have HL7 := Lib.hid (show (ds ++ [d]).length ≤ 600 by
                have h := HLN.out
                rw [hd.out, Int.toNat_natCast, HPC.out] at h
                simp at h ⊢
                omega)
              have HDN := Lib.hid (show dig (num T) = (ds ++ [d]) ++ dig (num (T.take ((e : Int) - 9).toNat)) by
                rw [show ((e : Int) - 9).toNat = e - 9 by omega, hd.out, Int.toNat_natCast, HPC.out]; simp)
              rcases hv'.form with ⟨_, he⟩ | ⟨g, cap, rfl, _⟩
              · simp [ni] at he
              · clear hv' hrow M0 M1
                go_wp2
                go_roundw
                case rel => exact ⟨(e : Int) - 9, ds ++ [d], _, rfl, by omega, by omega, HDN, HL7, N0, N1, HV, Lib.hid (by have := HS6.out; simpa [World.setCell] using this), HB7.out⟩
                case measure => simp only [intOf]; omega
    · have hu0 : ¬ u.toList = [] := by rw [Lib.toList_data]; exact fun e => hd (by rw [← HT.out]; exact HU.out.1 e)
      have HE := Lib.hid (show r = (0, 5) by rw [hr.out, parseZ_none (canon_letter hd)])
      clear hd
      go_wp2
      (try simp only [Exit.inBlock, Exit.then])
      exact end_zero rfl L2 HB2.out (Nat.le_refl _) HE.out rfl rfl
end Go.Proofs.YtnbanlmkoljghaaGreatDoor
