/- The law package's helpers: is, fails, of, size; literal texts. -/
import Derived.Test.YtnbanlmkoljghaaGreatDoorParse
import Derived.Test.YtnbanlmkoljghaaGreatDoorSame
namespace Go.Proofs.YtnbanlmkoljghaaGreatDoor
open Go Go.RowKit Dig

/-- s is the decimal text of z: a test that can be run. -/
def litB (s : List UInt8) (z : Int) : Bool :=
  (s == [48] && z == 0) || ((bare s).all (fun c => 48 ≤ c.toNat && c.toNat ≤ 57) && (match bare s with | [] => false | c :: _ => c != 48) && z == sgn (decide (bare s ≠ s)) (num (bare s)))
theorem lit {s : List UInt8} {z : Int} (h : litB s z = true) : canon s = some z := by
  unfold litB at h
  rw [Bool.or_eq_true] at h
  rcases h with h | h
  · simp at h
    rw [h.1, h.2]; exact canon_zero
  · rw [Bool.and_eq_true, Bool.and_eq_true] at h
    obtain ⟨⟨h1, h2⟩, h3⟩ := h
    have ha : AllDig (bare s) := by
      intro c hc
      have := List.all_eq_true.1 h1 c hc
      simp at this
      exact this
    have hz := eq_of_beq h3
    rw [hz]
    cases hb : bare s with
    | nil => rw [hb] at h2; cases h2
    | cons c r =>
      rw [hb] at h2
      rw [← hb]
      exact canon_num hb ha (by simpa using h2)
theorem lit_itoa {s : List UInt8} {z : Int} (h : litB s z = true) : Lib.itoa z = s := canon_some (lit h)
theorem small_len {z : Int} (h : z.natAbs < 1000000000000000000000000000) : (dig z.natAbs).length ≤ 600 := Nat.le_trans (dig_len_le.2 (show z.natAbs < bp 3 from h)) (by omega)
theorem lit_parse {s : List UInt8} {z : Int} (h : litB s z = true) (hz : z.natAbs < 1000000000000000000000000000) : parseZ s = (z, 0) := parseZ_some (lit h) (small_len hz)
theorem LV.of_num {w : World} {B : Nat} {v : Value} {z : Int} (h : LV w B v z) (hl : (dig z.natAbs).length ≤ 600) : ∃ na la, LR w B v na la ∧ numOf na la = some z := ⟨_, _, h, numOf_dig hl⟩

/-- The end of a function that returns a Long, where both parts have been stored, and a variable made behind it. -/
theorem end_one_alloc {fn : Func} {p : Tmp} (hf : fn.results = #[.cell p 24]) {W w : World} {B b : Nat} {q0 : Bool} {A : Option Addr} {n c : Nat} (hL : LB w b (.bool q0) (.slice A n c)) (hb : Below B W w) (hB : B ≤ b)
    {q : Bool} {s : Value} {z : Int} {tmps : Array Value} {o : Obj} (hs : RI w w.heap.size s (ni (Dig.dig z.natAbs))) (hq : q = decide (z < 0)) (hp : tmps.getD p undef = .pointer (some ⟨b, 0, none⟩)) :
    bodyPost Tryz.prog fn (fun e w' => Below B W w' ∧ RetV w' z e) .ret ⟨tmps, []⟩ (((w.setCell ⟨b, 0, none⟩ (.bool q)).setCell ⟨b, 1, none⟩ s).alloc o) := by
  obtain ⟨h1, h2⟩ := hL.put (q := q) hs
  have h3 := (hb.setCell (p := ⟨b, 0, none⟩) (by simpa using hB) (.bool q)).setCell (p := ⟨b, 1, none⟩) (by simpa using hB) s
  exact bodyPost_ret (LB.ret1 hf tmps (h1.alloc o) hp) rfl ⟨h3.alloc (by have := h1.lt; omega) o, .agg #[.bool q, s], rfl, s, by rw [hq], h2.step ((Below.refl _ _).alloc (Nat.le_refl _) o)⟩

/-- of: Parse without its error. -/
theorem of_any (w : World) (s : ByteArray) (hs : s.size ≤ 1000000) :
    Calls Tryz.prog 58 #[.string s] w fun e w' => Below w.heap.size w w' ∧ RetV w' (parseZ s.data.toList).1 e := by
  obtain ⟨r, hr⟩ : ∃ r, r = parseZ s.data.toList := ⟨_, rfl⟩
  rw [← hr]
  replace hr := Lib.hid hr
  have HB0 := Lib.hid ((Below.refl w.heap.size w).alloc (Nat.le_refl _) (.cells #[.bool false, .slice none 0 0] 24))
  have L0 := LB.new w (.bool false) (.slice none 0 0)
  go_enter Tryz.func58, Tryz.ntmps58
  go_wp2_with fail
  refine (Parse_any _ s hs).mono ?_
  rintro e w2 ⟨hb2, hret⟩
  rw [← hr.out] at hret
  obtain ⟨v, rfl, sv, rfl, hv⟩ := hret
  obtain ⟨A, c, rfl, -⟩ := (show RI _ _ _ _ from hv)
  have HV := Lib.hid hv
  have L2 := L0.step hb2
  have HB2 := Lib.hid (HB0.out.trans (hb2.mono (by simp)))
  have hsz : w.heap.size < w2.heap.size := L2.lt
  clear hb2 hv L0 HB0
  have q0 := L2.cell0
  have q1 := L2.cell1
  have q2 := L2.frozen 0
  have q3 := L2.frozen 1
  go_wp2
  (try simp only [Exit.inBlock, Exit.then])
  exact end_one_alloc rfl L2 HB2.out (Nat.le_refl _) HV.out rfl rfl

theorem is_any (w : World) (s : ByteArray) :
    Calls Tryz.prog 41 #[.string s] w fun e w' => Below w.heap.size w w' ∧ ∃ N, e = .returned (.func (.func 86) #[] #[.pointer (some ⟨N, 0, none⟩)]) ∧ One w' N 9 (.string s) := by
  go_enter Tryz.func41, Tryz.ntmps41
  go_wp2
  go_ret
  exact ⟨by (repeat' (first | exact Below.refl _ _ | refine Below.drew ?_ | refine Below.alloc ?_ (by first | exact Nat.le_refl _ | (simp; done) | (simp; omega)) _)), _, rfl, One.new _ _ _⟩
theorem fails_any (w : World) (c : Int) :
    Calls Tryz.prog 60 #[.int .i64 c] w fun e w' => Below w.heap.size w w' ∧ ∃ N, e = .returned (.func (.func 97) #[] #[.pointer (some ⟨N, 0, none⟩)]) ∧ One w' N 35 (.int .i64 c) := by
  go_enter Tryz.func60, Tryz.ntmps60
  go_wp2
  go_ret
  exact ⟨by (repeat' (first | exact Below.refl _ _ | refine Below.drew ?_ | refine Below.alloc ?_ (by first | exact Nat.le_refl _ | (simp; done) | (simp; omega)) _)), _, rfl, One.new _ _ _⟩

set_option maxRecDepth 100000 in
set_option maxHeartbeats 1000000 in
/-- is(want) of the Long whose text is want, without an error: true. -/
theorem is1_yes (w : World) (N : Nat) (s : ByteArray) (v : Value) (z : Int) (hN : One w N 9 (.string s)) (hv : LV w w.heap.size v z) (hl : (dig z.natAbs).length ≤ 600) (ht : Lib.itoa z = s.data.toList) (G : Glob w) :
    Calls Tryz.prog 86 #[v, .int .i64 0, .pointer (some ⟨N, 0, none⟩)] w fun e w' => Below w.heap.size w w' ∧ e = .returned (.bool true) := by
  obtain ⟨sv, rfl, hsv⟩ := hv
  obtain ⟨A, c, rfl, -⟩ := (show RI _ _ _ _ from hsv)
  replace hsv := Lib.hid hsv
  replace hN := Lib.hid hN
  replace ht := Lib.hid ht
  replace hl := Lib.hid hl
  go_enter Tryz.func86, Tryz.ntmps86
  go_wp2_with fail
  refine (Text_any _ _ _ _ ⟨_, rfl, hsv.out.step (by (repeat' (first | exact Below.refl _ _ | refine Below.drew ?_ | refine Below.alloc ?_ (by first | exact Nat.le_refl _ | (simp; done) | (simp; omega)) _)))⟩ (G.step (by (repeat' (first | exact Below.refl _ _ | refine Below.drew ?_ | refine Below.alloc ?_ (by first | exact Nat.le_refl _ | (simp; done) | (simp; omega)) _))))).mono ?_
  rintro e w2 ⟨hb2, he⟩
  rw [numOf_dig hl.out] at he
  have he : e = .returned (.tuple #[.string ⟨(Lib.itoa z).toArray⟩, .int .i64 0]) := he
  subst he
  have HB := Lib.hid ((show Below w.heap.size w _ from by (repeat' (first | exact Below.refl _ _ | refine Below.drew ?_ | refine Below.alloc ?_ (by first | exact Nat.le_refl _ | (simp; done) | (simp; omega)) _))).trans (hb2.mono (by simp)))
  have qn := (hN.out.step HB.out).cell
  have hst : (ByteArray.mk (Lib.itoa z).toArray).toList = s.toList := by
    rw [Lib.toList_data, Lib.toList_data, ← ht.out]
  generalize (ByteArray.mk (Lib.itoa z).toArray) = u at *
  have hbe : (u.toList == s.toList) = true := by rw [hst]; simp
  clear hst hb2
  go_wp2
  go_ret
  exact ⟨HB.out, rfl⟩
set_option maxRecDepth 100000 in
set_option maxHeartbeats 1000000 in
/-- fails(want) of the zero Long and the error want: true. -/
theorem fails1_yes (w : World) (N : Nat) (c : Int) (v : Value) (hN : One w N 35 (.int .i64 c)) (hv : LV w w.heap.size v 0) :
    Calls Tryz.prog 97 #[v, .int .i64 c, .pointer (some ⟨N, 0, none⟩)] w fun e w' => Below w.heap.size w w' ∧ e = .returned (.bool true) := by
  obtain ⟨sv, rfl, hsv⟩ := hv
  rw [show (0 : Int).natAbs = 0 from rfl, dig_zero, show ni [] = [] from rfl] at hsv
  rw [show decide ((0 : Int) < 0) = false from rfl]
  obtain ⟨A, k, rfl, -⟩ := (show RI _ _ _ _ from hsv)
  replace hsv := Lib.hid hsv
  replace hN := Lib.hid hN
  go_enter Tryz.func97, Tryz.ntmps97
  go_wp2_with fail
  refine (Same_any _ _ _ false false [] [] ⟨_, rfl, hsv.out.step (by (repeat' (first | exact Below.refl _ _ | refine Below.drew ?_ | refine Below.alloc ?_ (by first | exact Nat.le_refl _ | (simp; done) | (simp; omega)) _)))⟩ ⟨_, rfl, RI.nil _ _⟩).mono ?_
  rintro e w2 ⟨hb2, rfl⟩
  rw [show decide (false = false ∧ ([] : List Int) = []) = true from rfl]
  have HB := Lib.hid ((show Below w.heap.size w _ from by (repeat' (first | exact Below.refl _ _ | refine Below.drew ?_ | refine Below.alloc ?_ (by first | exact Nat.le_refl _ | (simp; done) | (simp; omega)) _))).trans (hb2.mono (by simp)))
  have qn := (hN.out.step HB.out).cell
  clear hb2
  have hcc : (c == c) = true := by simp
  go_wp2
  go_ret
  exact ⟨HB.out, rfl⟩
end Go.Proofs.YtnbanlmkoljghaaGreatDoor
