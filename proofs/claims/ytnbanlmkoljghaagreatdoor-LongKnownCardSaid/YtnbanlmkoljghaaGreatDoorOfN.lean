/- long.Of. -/
import Derived.Test.YtnbanlmkoljghaaGreatDoorOrd
import Derived.Maps.AppendAt
namespace Go.Proofs.YtnbanlmkoljghaaGreatDoor
open Go Go.RowKit Dig

theorem LB.grown {w w' : World} {b : Nat} {x y : Value} {row : Option Nat} (h : LB w b x y) (hg : w.grownBy w' row) (hr : row ≠ some b) : LB w' b x y := h.of_block (hg.block b h.lt (fun e => hr e.symm))
theorem OwnV.setBelow {w : World} {base : Nat} {v : Value} {l : List Int} (h : OwnV w base v l) {p : Addr} (hp : p.block < base) (u : Value) : OwnV (w.setCell p u) base v l := by
  have hg : w.grownBy (w.setCell p u) (some p.block) := ⟨rfl, rfl, rfl, by simp [World.setCell], fun i _ hne => Below.heap_setCell _ _ _ _ (fun e => hne (by rw [e]))⟩
  refine World.ownsRow.kept h hg ?_
  cases hv : v.ownBlock with
  | none => exact .inl rfl
  | some g =>
    refine .inr fun e => ?_
    have h1 := (World.ownsRow.lt h g hv).1
    have h2 := Option.some.inj e
    omega
/-- A Long is returned. -/
def RetV (w' : World) (z : Int) (e : Ending) : Prop := ∃ v, e = .returned v ∧ LV w' w'.heap.size v z

/-- The end of a function that returns a Long, where both parts have been stored. -/
theorem end_one {fn : Func} {p : Tmp} (hf : fn.results = #[.cell p 24]) {W w : World} {B b : Nat} {q0 : Bool} {A : Option Addr} {n c : Nat} (hL : LB w b (.bool q0) (.slice A n c)) (hb : Below B W w) (hB : B ≤ b)
    {q : Bool} {s : Value} {z : Int} {tmps : Array Value} (hs : RI w w.heap.size s (ni (Dig.dig z.natAbs))) (hq : q = decide (z < 0)) (hp : tmps.getD p undef = .pointer (some ⟨b, 0, none⟩)) :
    bodyPost Tryz.prog fn (fun e w' => Below B W w' ∧ RetV w' z e) .ret ⟨tmps, []⟩ ((w.setCell ⟨b, 0, none⟩ (.bool q)).setCell ⟨b, 1, none⟩ s) := by
  obtain ⟨h1, h2⟩ := hL.put (q := q) hs
  exact bodyPost_ret (LB.ret1 hf tmps h1 hp) rfl ⟨(hb.setCell (by simpa using hB) _).setCell (by simpa using hB) _, .agg #[.bool q, s], rfl, s, by rw [hq], h2⟩

set_option maxRecDepth 100000 in
set_option maxHeartbeats 1000000 in
theorem Of_any (w : World) (n : Int) (h0 : -9223372036854775808 ≤ n) (h1 : n ≤ 9223372036854775807) :
    Calls Tryz.prog 49 #[.int .i64 n] w fun e w' => Below w.heap.size w w' ∧ RetV w' n e := by
  obtain ⟨i0, hi, hz0, hz1, hz2⟩ := info_parts info_int
  have H3 := Lib.hid (show (dig n.natAbs).length ≤ 3 by rw [dig_len_le]; show n.natAbs < 1000000000000000000000000000; omega)
  go_enter Tryz.func49, Tryz.ntmps49
  go_wp2
  have L0 : LB ((w.alloc (.cells #[.bool false, .slice none 0 0] 24)).alloc (.cells #[.bool (decide (n < 0)), .slice none 0 0] 24)) w.heap.size (.bool false) (.slice none 0 0) := by (repeat (first | (refine LB.new' ?_; simp; done) | refine LB.alloc ?_ _))
  have L1 : LB ((w.alloc (.cells #[.bool false, .slice none 0 0] 24)).alloc (.cells #[.bool (decide (n < 0)), .slice none 0 0] 24)) (w.heap.size + 1) (.bool (decide (n < 0))) (.slice none 0 0) := by (repeat (first | (refine LB.new' ?_; simp; done) | refine LB.alloc ?_ _))
  go_loopw [0] (fun nv wr => ∃ (k : Int) (ds : List Nat) (v : Value), nv = .int .i64 k ∧ -9223372036854775808 ≤ k ∧ k ≤ 9223372036854775807 ∧ Hid (dig n.natAbs = ds ++ dig k.natAbs) ∧ Hid (ds.length ≤ 20) ∧ LB wr w.heap.size (.bool false) (.slice none 0 0) ∧ LB wr (w.heap.size + 1) (.bool (decide (n < 0))) v ∧ Hid (OwnV wr (w.heap.size + 2) v (ni ds)) ∧ Hid (w.heap.size + 2 ≤ wr.heap.size) ∧ Below w.heap.size w wr) (fun nv _ => (intOf nv).natAbs)
  case atStart => exact ⟨n, [], _, rfl, h0, h1, Lib.hid (by simp), Lib.hid (by simp), L0, L1, Lib.hid (OwnV.nil _ _), Lib.hid (by simp), by (repeat' (first | exact Below.refl _ _ | refine Below.drew ?_ | refine Below.alloc ?_ (by first | exact Nat.le_refl _ | (simp; done) | (simp; omega)) _))⟩
  case round =>
    clear L0 L1
    obtain ⟨k, ds, v, rfl, hk0, hk1, hd, hlen, L0, L1, ho, hsz, hbw⟩ := hrel
    by_cases hk : k = 0
    · have hds : ni (dig n.natAbs) = ni ds := by rw [hd.out, hk, show (0 : Int).natAbs = 0 from rfl, dig_zero, List.append_nil]
      have HDS := Lib.hid hds
      have HB := Lib.hid hbw
      have HRI := Lib.hid ho.out.ri
      have hri := ho.out.ri
      obtain ⟨A, c, rfl, _⟩ := hri
      subst hk
      have qa0 := L1.cell0
      have qa1 := L1.cell1
      have qb0 := L0.cell0
      have qb1 := L0.cell1
      have qb2 := L0.frozen 0
      have qb3 := L0.frozen 1
      clear hds hbw hk0 hk1
      go_wp2
      (try simp only [Exit.inBlock, Exit.then])
      exact end_one rfl L0 HB.out (Nat.le_refl _) (by rw [HDS.out]; exact HRI.out) rfl rfl
    · have HB := Lib.hid hbw
      have hkb : (k != 0) = true := by simpa using hk
      have hna : (k.tmod 1000000000).natAbs = k.natAbs % 1000000000 := Int.natAbs_tmod k 1000000000
      have hnd : (k.tdiv 1000000000).natAbs = k.natAbs / 1000000000 := Int.natAbs_tdiv k 1000000000
      have hm0 : -1000000000 < k.tmod 1000000000 := by have := Nat.mod_lt k.natAbs (show 1000000000 > 0 by decide); omega
      have hm1 : k.tmod 1000000000 < 1000000000 := by have := Nat.mod_lt k.natAbs (show 1000000000 > 0 by decide); omega
      have hmm : max (k.tmod 1000000000) (-k.tmod 1000000000) = ((k.natAbs % 1000000000 : Nat) : Int) := by omega
      have HM := Lib.hid hmm
      have HD := Lib.hid hnd
      clear hmm hna hnd
      have qa0 := L1.cell0
      have qa1 := L1.cell1
      have qa2 := L1.frozen 1
      have hown := ho.out.alloc (.cells #[.int .i64 (max (k.tmod 1000000000) (-k.tmod 1000000000))] 3)
      clear hbw
      have hl20 := hlen.out
      go_wp2_with (at_builtin; refine wpList_append_own_at _ rfl _ _ 22 rfl (w.heap.size + 2) 3 i0 (.int .i64 0) 1 8 Tryz.underlying22 hi hz0 hz1 hz2 rfl (by decide) v (ni ds).length ((ni ds).map (Value.int .i64)) rfl hown ⟨wr.heap.size, 0, none⟩ 1 1 [.int .i64 (max (k.tmod 1000000000) (-k.tmod 1000000000))] rfl rfl (cell_one_new _ _ _) (by intro u hu; simp at hu; subst hu; rfl) (by rw [ni_length]; unfold maxLen; omega) (by rw [ni_length]; omega) (by have := hsz.out; simp; omega) ?_)
      intro v' w' hown' hgrow hne hblk
      have hv' : OwnV w' (w.heap.size + 2) v' (ni (ds ++ [k.natAbs % 1000000000])) := by
        have h := hown'
        rw [HM.out] at h
        rw [OwnV, ni_length, List.length_append]
        rw [ni_length] at h
        have e : (ni (ds ++ [k.natAbs % 1000000000])).map (Value.int .i64) = (ni ds).map (Value.int .i64) ++ [.int .i64 ((k.natAbs % 1000000000 : Nat) : Int)] := by simp [ni]
        rw [e]
        exact h
      have hrow : ∀ b, b < w.heap.size + 2 → v.ownBlock ≠ some b := fun b hb he => by
        have := (World.ownsRow.lt ho.out b he).1
        omega
      have M0 := (L0.alloc (.cells #[.int .i64 (max (k.tmod 1000000000) (-k.tmod 1000000000))] 3)).grown hgrow (hrow _ (by omega))
      have M1 := (L1.alloc (.cells #[.int .i64 (max (k.tmod 1000000000) (-k.tmod 1000000000))] 3)).grown hgrow (hrow _ (by omega))
      have HB2 := Lib.hid ((HB.out.alloc (by have := HB.out.size; exact this) (.cells #[.int .i64 (max (k.tmod 1000000000) (-k.tmod 1000000000))] 3)).grown hgrow (by have := HB.out.size; simp; omega) (fun g he => by have := (World.ownsRow.lt ho.out g he).1; omega))
      have HS2 := Lib.hid (show w.heap.size + 2 ≤ w'.heap.size by have h1 := hgrow.size; have h2 := hsz.out; simp at h1; omega)
      have HV := Lib.hid (hv'.setBelow (p := ⟨w.heap.size + 1, 1, none⟩) (by simp) v')
      have N0 := M0.far (p := ⟨w.heap.size + 1, 1, none⟩) (by simp) v'
      have N1 := M1.set1 v'
      have HB3 := Lib.hid (HB2.out.setCell (p := ⟨w.heap.size + 1, 1, none⟩) (by simp) v')
      clear hown' hgrow hne hblk hown qa0 qa1 qa2
      have qa2 := M1.frozen 1
      have qa1 := M1.cell1
      rcases hv'.form with ⟨_, he⟩ | ⟨g, cap, rfl, _⟩
      · simp [ni] at he
      · have hk2 : -9223372036854775808 ≤ k.tdiv 1000000000 := by have := HD.out; omega
        have hk3 : k.tdiv 1000000000 ≤ 9223372036854775807 := by have := HD.out; omega
        clear hv' hrow
        go_wp2
        go_roundw
        case rel =>
          exact ⟨k.tdiv 1000000000, ds ++ [k.natAbs % 1000000000], _, rfl, hk2, hk3, Lib.hid (by rw [hd.out, HD.out, dig_pos (by omega : k.natAbs ≠ 0)]; simp), Lib.hid (by have h := H3.out; rw [hd.out, dig_pos (by omega : k.natAbs ≠ 0)] at h; simp at h ⊢; omega), N0, N1, HV, Lib.hid (by have := HS2.out; simpa [World.setCell] using this), HB3.out⟩
        case measure => have := HD.out; simp only [intOf]; omega
end Go.Proofs.YtnbanlmkoljghaaGreatDoor
