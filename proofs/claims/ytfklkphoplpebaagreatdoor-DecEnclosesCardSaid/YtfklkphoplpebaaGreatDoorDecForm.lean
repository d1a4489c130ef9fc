/- dec.form at this translation: whether a text is that of a decimal number, and its places. -/
import Derived.Test.YtfklkphoplpebaaGreatDoorDec
import Derived.Test.YtfklkphoplpebaaGreatDoorDecF
import Derived.Lib.OthersKept
import Derived.Laws.RangeAny
namespace Go.Proofs.YtfklkphoplpebaaGreatDoor
open Go Go.RowKit Dig

def lastZ (l : List UInt8) : Int := match l.getLast? with | none => 32 | some c => c.toNat
theorem lastZ_snoc (l : List UInt8) (c : UInt8) : lastZ (l ++ [c]) = c.toNat := by unfold lastZ; simp
theorem beq_str2 (s t : ByteArray) : (s.toList == t.toList) = decide (s.data.toList = t.data.toList) := by
  rw [Lib.toList_data, Lib.toList_data]
  by_cases h : s.data.toList = t.data.toList
  · rw [h]; simp
  · rw [decide_eq_false h]; exact beq_eq_false_iff_ne.2 h
theorem head_at {t : ByteArray} {l : List UInt8} (h : t.data.toList = l) (h0 : 0 < t.size) : l.head? = some (t[0]'h0) := by
  subst h
  have h2 : 0 < t.data.toList.length := by rw [← Lib.size_eq]; exact h0
  rw [show t[0] = t.data.toList[0] from rfl, List.head?_eq_getElem?]
  exact List.getElem?_eq_getElem h2
theorem lastZ_dig {l : List UInt8} (h : AllDig l) (hn : l ≠ []) : 48 ≤ lastZ l ∧ lastZ l ≤ 57 := by
  rcases List.eq_nil_or_concat l with e | ⟨m, c, e⟩
  · exact absurd e hn
  · rw [List.concat_eq_append] at e
    subst e
    rw [lastZ_snoc]
    have := h c (by simp)
    exact ⟨by have := this.1; omega, by have := this.2; omega⟩
/-- What form answers. -/
def formZ (l : List UInt8) : Int × Bool := if shpB l then ((plc l : Int), true) else (0, false)
theorem formZ_bad {l : List UInt8} (h : shpB l = false) : formZ l = (0, false) := by unfold formZ; rw [h]; rfl
theorem formZ_good {l : List UInt8} (h : shpB l = true) : formZ l = ((plc l : Int), true) := by unfold formZ; rw [h]; rfl
def ptZ : Option Nat → Int | none => -1 | some k => k
theorem char_split {t : ByteArray} {p : Nat} (h : p < t.size) : t.data.toList = t.data.toList.take p ++ t[p] :: t.data.toList.drop (p + 1) := by
  have h2 : p < t.data.toList.length := by rw [← Lib.size_eq]; exact h
  rw [show t[p] = t.data.toList[p] from rfl, ← List.drop_eq_getElem_cons h2, List.take_append_drop]
theorem take_next {t : ByteArray} {p : Nat} (h : p < t.size) : t.data.toList.take (p + 1) = t.data.toList.take p ++ [t[p]] := by
  have h2 : p < t.data.toList.length := by rw [← Lib.size_eq]; exact h
  rw [List.take_succ_eq_append_getElem h2]; rfl
/-- What the next character is read as. -/
theorem next_char (P : Program) (w : World) (k : Nat) (t : ByteArray) (p : Nat) (hk : w.heap[k]? = some (.stringIter t p)) (h : p < t.size) :
    ∃ (R : Int) (d : Nat), (∀ ty, (Instr.next (.pointer (some ⟨k, 0, none⟩)) true ty).run P w = .ok (.tuple #[.bool true, .int .i64 p, .int .i32 R]) (w.iterAt k t (p + d))) ∧
      (((t[p]'h).toNat < 128 ∧ R = (t[p]'h).toNat ∧ d = 1) ∨ (128 ≤ (t[p]'h).toNat ∧ 128 ≤ R)) ∧ 0 ≤ R ∧ 1 ≤ d := by
  by_cases ha : (t[p]'h).toNat < 128
  · exact ⟨_, 1, fun ty => Lib.run_next_ascii_at w k t p ty hk h ha, .inl ⟨ha, rfl, rfl⟩, by omega, by omega⟩
  · have h1 := decode_high t p h (by omega)
    exact ⟨_, _, fun ty => Lib.run_next_any_at w k t p ty hk h, .inr ⟨by omega, by omega⟩, by omega, h1.2⟩
set_option linter.unusedSimpArgs false in
set_option maxRecDepth 100000 in
set_option maxHeartbeats 4000000 in
theorem form_any (w : World) (s : ByteArray) (hs : s.size ≤ 1000000) :
    Calls Tryz.prog 36 #[.string s] w fun e w' => Below w.heap.size w w' ∧ e = .returned (.tuple #[.int .i64 (formZ s.data.toList).1, .bool (formZ s.data.toList).2]) := by
  obtain ⟨r, hr⟩ : ∃ r, r = formZ s.data.toList := ⟨_, rfl⟩
  rw [← hr]
  have HRR := Lib.hid hr; clear hr
  have HS := Lib.hid hs; clear hs
  go_enter Tryz.func36, Tryz.ntmps36
  go_wp2
  go_step3
  go_wp2_with fail
  refine (Tryz.strings_TrimPrefix s ⟨#[45]⟩ _).mono ?_
  rintro e w1 ⟨rfl, rfl⟩
  obtain ⟨t, ht⟩ : ∃ t : ByteArray, t = ⟨(Lib.trimPrefix s.data.toList (ByteArray.mk #[45]).data.toList).toArray⟩ := ⟨_, rfl⟩
  rw [← ht]
  have htl : t.data.toList = bare s.data.toList := by rw [ht]; exact trimPrefix_dash _
  have hts : t.size ≤ s.size := by rw [Lib.size_eq, Lib.size_eq, htl]; exact bare_len _
  have HT := Lib.hid htl
  have HTS := Lib.hid (show t.size ≤ 1000000 by have := HS.out; omega)
  clear ht htl hts
  go_wp2
  (try go_step3)
  go_wp2
  go_loopw [5, 6] (fun s5 s6 wr => ∃ (p : Nat) (q : Option Nat), p ≤ t.size ∧ s5 = .int .i64 (ptZ q) ∧ s6 = .int .i32 (lastZ (t.data.toList.take p)) ∧ Hid (GoodT (t.data.toList.take p) q) ∧ wr.heap[w1.heap.size]? = some (.stringIter t p) ∧ Hid (Below w1.heap.size w1 wr)) (fun _ _ wr => t.size - wr.iterPos w1.heap.size)
  case atStart => exact ⟨0, none, Nat.zero_le _, rfl, rfl, Lib.hid AllDig.nil, by have := World.iter_heap w1 t 0; simpa using this, Lib.hid ((Below.refl w1.heap.size w1).alloc (Nat.le_refl _) _)⟩
  case round =>
    obtain ⟨p, q, hp, rfl, rfl, HG, hit, HB⟩ := hrel
    have hsz : w1.heap.size < wr.heap.size := (Array.getElem?_eq_some_iff.1 hit).1
    by_cases hpl : p < t.size
    · obtain ⟨R, d, hnx, hR, hR0, hd1⟩ := next_char Tryz.prog wr w1.heap.size t p hit hpl
      obtain ⟨c, hc⟩ : ∃ c, c = t[p] := ⟨_, rfl⟩
      rw [← hc] at hR
      have HSP := Lib.hid (show bare s.data.toList = t.data.toList.take p ++ c :: t.data.toList.drop (p + 1) by rw [← HT.out, hc]; exact char_split hpl)
      have HTK := Lib.hid (show t.data.toList.take (p + 1) = t.data.toList.take p ++ [c] by rw [hc]; exact take_next hpl)
      have hit2 := Lib.iterAt_heap wr w1.heap.size t p (p + d) hit
      have HB2 := Lib.hid (Lib.below_iterAt HB.out (k := w1.heap.size) (Nat.le_refl _) t (p + d))
      have HMS := Lib.hid (show (wr.iterPos w1.heap.size) = p by simp only [World.iterPos, hit])
      have HMS2 := Lib.hid (show ((wr.iterAt w1.heap.size t (p + d)).iterPos w1.heap.size) = p + d by simp only [World.iterPos, hit2])
      clear hc hit
      by_cases hdg : 48 ≤ R ∧ R ≤ 57
      · obtain ⟨g1, g2⟩ := hdg
        have hcR : R = c.toNat ∧ d = 1 := by rcases hR with h | h <;> omega
        have HDC := Lib.hid (show IsDig c from ⟨by omega, by omega⟩)
        obtain ⟨hcR, rfl⟩ := hcR
        have HCR := Lib.hid hcR
        have k1 : (R == 46) = false := by rw [beq_eq_false_iff_ne]; omega
        have k2 : ¬ R < 48 := by omega
        have k3 : ¬ 57 < R := by omega
        clear hR hcR
        go_wp2
        go_roundw
        case rel => exact ⟨p + 1, q, by omega, rfl, by rw [HTK.out, lastZ_snoc, HCR.out], Lib.hid (by rw [HTK.out]; exact HG.out.digit HDC.out), hit2, HB2⟩
        case measure => rw [HMS.out, HMS2.out]; omega
      · by_cases hdt : R = 46 ∧ q = none ∧ 0 < p
        · obtain ⟨rfl, rfl, hp0⟩ := hdt
          have hc46 : c = 46 ∧ d = 1 := by
            rcases hR with ⟨h1, h2, h3⟩ | h
            · exact ⟨UInt8.toNat_inj.1 (by show c.toNat = 46; omega), h3⟩
            · omega
          obtain ⟨rfl, rfl⟩ := hc46
          have k4 : (0 : Int) < (p : Int) := by omega
          have HL := Lib.hid (show (t.data.toList.take p).length = p by rw [List.length_take, ← Lib.size_eq]; omega)
          clear hR hdg
          rw [show ptZ none = -1 from rfl]
          go_wp2
          go_roundw
          case rel => exact ⟨p + 1, some p, by omega, rfl, by rw [HTK.out, lastZ_snoc]; rfl, Lib.hid (by rw [HTK.out]; have h := GoodT.dot HG.out (fun e => by have h2 := HL.out; rw [e] at h2; simp at h2; omega); rwa [HL.out] at h), hit2, HB2⟩
          case measure => rw [HMS.out, HMS2.out]; omega
        · have hnd : ¬ IsDig c := by
            intro h
            have := h.1; have := h.2
            rcases hR with h1 | h1 <;> omega
          have HBAD := Lib.hid (shpB_bad HSP.out HG.out hnd (fun e => by
            subst e
            have h46 : R = 46 := by
              rcases hR with ⟨_, h1, _⟩ | ⟨h1, _⟩
              · exact h1
              · exact absurd h1 (by decide)
            rcases Nat.eq_zero_or_pos p with h | h
            · right; rw [h]; rfl
            · left; intro h2; exact hdt ⟨h46, h2, h⟩))
          have hqk : ∀ k, q = some k → (k : Int) ≤ (t.size : Int) := by
            intro k hk; subst hk
            obtain ⟨_, W, P, h1, h2, _⟩ := HG.out
            have h3 := congrArg List.length h1
            rw [List.length_take, List.length_append, ← Lib.size_eq] at h3
            omega
          clear hR hnd
          cases q with
          | none =>
            rw [show ptZ none = -1 from rfl]
            by_cases h46 : R = 46
            · have hp0 : ¬ (0 : Int) < (p : Int) := by
                intro h; exact hdt ⟨h46, rfl, by omega⟩
              subst h46
              clear hdt hdg hqk
              go_wp2
              (try rw [Exit.noGoto_ret])
              go_ret2
              exact ⟨HB2.out, by rw [HRR.out, formZ_bad HBAD.out]; rfl⟩
            · have k1 : (R == 46) = false := by rw [beq_eq_false_iff_ne]; exact h46
              by_cases h48 : R < 48
              · clear hdt hdg hqk h46
                go_wp2
                (try rw [Exit.noGoto_ret])
                go_ret2
                exact ⟨HB2.out, by rw [HRR.out, formZ_bad HBAD.out]; rfl⟩
              · have k3 : 57 < R := by omega
                clear hdt hdg hqk h46
                go_wp2
                (try rw [Exit.noGoto_ret])
                go_ret2
                exact ⟨HB2.out, by rw [HRR.out, formZ_bad HBAD.out]; rfl⟩
          | some k =>
            rw [show ptZ (some k) = (k : Int) from rfl]
            have hk1 := hqk k rfl
            have hk0 : (0 : Int) ≤ (k : Int) := by omega
            by_cases h46 : R = 46
            · subst h46
              clear hdt hdg hqk
              go_wp2
              (try rw [Exit.noGoto_ret])
              go_ret2
              exact ⟨HB2.out, by rw [HRR.out, formZ_bad HBAD.out]; rfl⟩
            · have k1 : (R == 46) = false := by rw [beq_eq_false_iff_ne]; exact h46
              by_cases h48 : R < 48
              · clear hdt hdg hqk h46
                go_wp2
                (try rw [Exit.noGoto_ret])
                go_ret2
                exact ⟨HB2.out, by rw [HRR.out, formZ_bad HBAD.out]; rfl⟩
              · have k3 : 57 < R := by omega
                clear hdt hdg hqk h46
                go_wp2
                (try rw [Exit.noGoto_ret])
                go_ret2
                exact ⟨HB2.out, by rw [HRR.out, formZ_bad HBAD.out]; rfl⟩
    · obtain rfl : p = t.size := by omega
      have hnx : ∀ ty, (Instr.next (.pointer (some ⟨w1.heap.size, 0, none⟩)) true ty).run Tryz.prog wr = _ := fun ty => Lib.run_next_end_at wr w1.heap.size t t.size ty hit hpl
      have hall : t.data.toList.take t.size = bare s.data.toList := by rw [Lib.size_eq, List.take_length, HT.out]
      rw [hall] at HG ⊢
      have HLEN := Lib.hid (show (bare s.data.toList).length = t.size by rw [← HT.out, Lib.size_eq])
      clear hall hit hpl
      cases q with
      | none =>
        rw [show ptZ none = -1 from rfl]
        have HA : Hid (AllDig (bare s.data.toList)) := Lib.hid HG.out
        by_cases h0 : t.size = 0
        · have he : bare s.data.toList = [] := List.eq_nil_of_length_eq_zero (by rw [HLEN.out, h0])
          have HBAD := Lib.hid (show shpB s.data.toList = false by rw [shpB_dig HA.out, he]; rfl)
          rw [he, show lastZ [] = 32 from rfl]
          clear he h0
          go_wp2
          (try rw [Exit.noGoto_ret])
          go_ret2
          exact ⟨HB.out, by rw [HRR.out, formZ_bad HBAD.out]; rfl⟩
        · have hne : bare s.data.toList ≠ [] := by intro e; have := HLEN.out; rw [e] at this; exact h0 this.symm
          obtain ⟨L, hL⟩ : ∃ L, L = lastZ (bare s.data.toList) := ⟨_, rfl⟩
          have hLd := lastZ_dig HA.out hne
          rw [← hL] at hLd ⊢
          have k1 : ¬ L < 48 := by omega
          have k2 : ¬ 57 < L := by omega
          have h1 : 0 < t.size := by omega
          have HH := Lib.hid (head_at HT.out h1)
          have HNE := Lib.hid hne
          clear hL hLd hne
          by_cases h2 : 1 < t.size
          · have k3 : (1 : Int) < (t.size : Int) := by omega
            have hsn : s.data.toList ≠ [45, 48] := by
              intro e
              have h3 := HLEN.out
              rw [e] at h3
              have h4 : ([48] : List UInt8).length = t.size := h3
              simp at h4; omega
            have kS : (s.toList == [45, 48]) = false := by rw [Lib.toList_data]; exact beq_eq_false_iff_ne.2 hsn
            by_cases hc : t[0] = 48
            · have k4 : ((t[0].toNat : Nat) : Int) = 48 := by rw [hc]; rfl
              have HBAD := Lib.hid (show shpB s.data.toList = false by
                rw [shpB_dig HA.out, HH.out, hc, show ((bare s.data.toList).length == 1) = false from beq_eq_false_iff_ne.2 (by rw [HLEN.out]; omega)]; simp)
              clear hsn hc h0 h2
              go_wp2
              (try rw [Exit.noGoto_ret])
              go_ret2
              exact ⟨HB.out, by rw [HRR.out, formZ_bad HBAD.out]; rfl⟩
            · have k4 : ¬ ((t[0].toNat : Nat) : Int) = 48 := by intro e; exact hc (UInt8.toNat_inj.1 (by show t[0].toNat = 48; omega))
              have k5 : (((t[0].toNat : Nat) : Int) == 48) = false := beq_eq_false_iff_ne.2 k4
              have HGD := Lib.hid (show shpB s.data.toList = true by
                rw [shpB_dig HA.out, HH.out]
                have e1 : (!(bare s.data.toList).isEmpty) = true := by cases h : bare s.data.toList with
                  | nil => exact absurd h HNE.out
                  | cons _ _ => rfl
                have e2 : (some t[0] != some (48 : UInt8)) = true := by rw [bne_iff_ne]; intro e; injection e with e; exact hc e
                have e3 : (s.data.toList != [45, 48]) = true := by rw [bne_iff_ne]; exact hsn
                rw [e1, e2, e3]; simp)
              clear hsn hc h0 h2
              go_wp2
              (try rw [Exit.noGoto_ret])
              go_ret2
              exact ⟨HB.out, by rw [HRR.out, formZ_good HGD.out, plc_dig HA.out]; rfl⟩
          · have hs1 : t.size = 1 := by omega
            have k3 : ¬ (1 : Int) < (t.size : Int) := by omega
            by_cases hsn : s.data.toList = [45, 48]
            · have kS : (s.toList == [45, 48]) = true := by rw [Lib.toList_data, hsn]; rfl
              have HBAD := Lib.hid (show shpB s.data.toList = false by rw [hsn]; rfl)
              clear hsn h0 h2
              go_wp2
              (try rw [Exit.noGoto_ret])
              go_ret2
              exact ⟨HB.out, by rw [HRR.out, formZ_bad HBAD.out]; rfl⟩
            · have kS : (s.toList == [45, 48]) = false := by rw [Lib.toList_data]; exact beq_eq_false_iff_ne.2 hsn
              have HGD := Lib.hid (show shpB s.data.toList = true by
                rw [shpB_dig HA.out]
                have e1 : (!(bare s.data.toList).isEmpty) = true := by cases h : bare s.data.toList with
                  | nil => exact absurd h HNE.out
                  | cons _ _ => rfl
                have e2 : ((bare s.data.toList).length == 1) = true := by rw [HLEN.out, hs1]; rfl
                have e3 : (s.data.toList != [45, 48]) = true := by rw [bne_iff_ne]; exact hsn
                rw [e1, e2, e3]; simp)
              clear hsn h0 h2 hs1
              go_wp2
              (try rw [Exit.noGoto_ret])
              go_ret2
              exact ⟨HB.out, by rw [HRR.out, formZ_good HGD.out, plc_dig HA.out]; rfl⟩
      | some k =>
        rw [show ptZ (some k) = (k : Int) from rfl]
        obtain ⟨hk, W, P, hWP, hWl, hW, hP⟩ := HG.out
        have hn : W ≠ [] := by intro e; rw [e] at hWl; simp at hWl; omega
        have hsz : t.size = k + 1 + P.length := by
          have h1 := HLEN.out
          rw [hWP, List.length_append, List.length_cons, hWl] at h1; omega
        have HSH := Lib.hid (shpB_dot hWP hW hP hn)
        have HPL := Lib.hid (plc_dot hWP hW hP)
        have hk0 : (0 : Int) ≤ (k : Int) := by omega
        have hk1 : (k : Int) ≤ (t.size : Int) := by omega
        have kW : (t.extract 0 k).data.toList = W := by
          have h1 : (t.extract 0 k).data.toList = (t.data.toList.take k).drop 0 := by simp [ByteArray.data_extract, List.drop_take]
          rw [h1, HT.out, hWP, ← hWl, List.take_left, List.drop_zero]
        obtain ⟨X, hX⟩ : ∃ X : ByteArray, t.extract 0 k = X := ⟨_, rfl⟩
        rw [hX] at kW
        have hXs : X.size = k := by rw [Lib.size_eq, kW, hWl]
        have hxp : 0 < X.size := by omega
        have HH := Lib.hid (head_at kW hxp)
        have KPL := Lib.hid (show (t.size : Int) - (k : Int) - 1 = (P.length : Int) by omega)
        have kpl0 : (0 : Int) ≤ (t.size : Int) - (k : Int) - 1 := by omega
        have kpl1 : (0 : Int) ≤ (t.size : Int) - (k : Int) := by omega
        have kt : (t.size : Int) ≤ 1000000 := by have := HTS.out; omega
        rcases List.eq_nil_or_concat P with e | ⟨m, x, e⟩
        · have HBAD := Lib.hid (show shpB s.data.toList = false by rw [HSH.out, e]; simp)
          rw [hWP, e, lastZ_snoc, show (((46 : UInt8).toNat : Nat) : Int) = 46 from rfl]
          clear e hWP kW hWl hsz
          go_wp2
          (try rw [Exit.noGoto_ret])
          go_ret2
          exact ⟨HB.out, by rw [HRR.out, formZ_bad HBAD.out]; rfl⟩
        · rw [List.concat_eq_append] at e
          rw [hWP, e, show W ++ 46 :: (m ++ [x]) = (W ++ 46 :: m) ++ [x] by simp, lastZ_snoc]
          have hx := hP x (by rw [e]; simp)
          obtain ⟨L, hL⟩ : ∃ L : Int, L = (x.toNat : Int) := ⟨_, rfl⟩
          rw [← hL]
          have k1 : ¬ L < 48 := by have := hx.1; omega
          have k2 : ¬ 57 < L := by have := hx.2; omega
          by_cases hx48 : x = 48
          · have HBAD := Lib.hid (show shpB s.data.toList = false by rw [HSH.out, e, hx48]; simp)
            have hL48 : L = 48 := by rw [hL, hx48]; rfl
            subst hL48
            clear e hWP kW hWl hsz hL hx hx48
            go_wp2
            (try rw [Exit.noGoto_ret])
            go_ret2
            exact ⟨HB.out, by rw [HRR.out, formZ_bad HBAD.out]; rfl⟩
          · have k3 : ¬ L = 48 := by intro h; exact hx48 (UInt8.toNat_inj.1 (by show x.toNat = 48; omega))
            have k4 : (L == 48) = false := beq_eq_false_iff_ne.2 k3
            have hsn : s.data.toList ≠ [45, 48] := by
              intro h3
              have h4 := HLEN.out
              rw [h3] at h4
              have h5 : ([48] : List UInt8).length = t.size := h4
              simp at h5; omega
            have kS : (s.toList == [45, 48]) = false := by rw [Lib.toList_data]; exact beq_eq_false_iff_ne.2 hsn
            have hp1 : (!P.isEmpty && P.getLast? != some 48) = true := by rw [e]; simp [hx48]
            by_cases h2 : 1 < k
            · have k6 : (1 : Int) < (X.size : Int) := by omega
              by_cases hc : X[0] = 48
              · have k7 : ((X[0].toNat : Nat) : Int) = 48 := by rw [hc]; rfl
                have HBAD := Lib.hid (show shpB s.data.toList = false by
                  rw [HSH.out, HH.out, hc, show (W.length == 1) = false from beq_eq_false_iff_ne.2 (by omega)]; simp)
                clear e hWP kW hWl hsz hL hx hx48 hsn hp1 hc hXs h2
                go_wp2
                (try rw [Exit.noGoto_ret])
                go_ret2
                exact ⟨HB.out, by rw [HRR.out, formZ_bad HBAD.out]; rfl⟩
              · have k7 : ¬ ((X[0].toNat : Nat) : Int) = 48 := by intro h; exact hc (UInt8.toNat_inj.1 (by show X[0].toNat = 48; omega))
                have k8 : (((X[0].toNat : Nat) : Int) == 48) = false := beq_eq_false_iff_ne.2 k7
                have HGD := Lib.hid (show shpB s.data.toList = true by
                  rw [HSH.out, HH.out, hp1, show (some X[0] != some (48 : UInt8)) = true by rw [bne_iff_ne]; intro h; injection h with h; exact hc h]; simp)
                clear e hWP kW hWl hsz hL hx hx48 hsn hp1 hc hXs h2
                go_wp2
                (try rw [Exit.noGoto_ret])
                go_ret2
                exact ⟨HB.out, by rw [HRR.out, formZ_good HGD.out, HPL.out]; simp only [KPL.out]; rfl⟩
            · have k6 : ¬ (1 : Int) < (X.size : Int) := by omega
              have HGD := Lib.hid (show shpB s.data.toList = true by
                rw [HSH.out, hp1, show (W.length == 1) = true by rw [hWl, show k = 1 by omega]; rfl]; simp)
              clear e hWP kW hWl hsz hL hx hx48 hsn hp1 hXs h2
              go_wp2
              (try rw [Exit.noGoto_ret])
              go_ret2
              exact ⟨HB.out, by rw [HRR.out, formZ_good HGD.out, HPL.out]; simp only [KPL.out]; rfl⟩
end Go.Proofs.YtfklkphoplpebaaGreatDoor
