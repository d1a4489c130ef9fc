/- Words for memory: slices of ints that read as lists; what a call that only makes memory of its own leaves. -/
import Derived.WalkKit
import Derived.Deep.Draws
import Derived.Lib.Hide
import Derived.Laws.Rows
namespace Go.Proofs.YtnbanlmkoljghaaGreatDoor
open Go Go.RowKit

/-- The slice value v reads as the ints l, below block B. -/
def RI (w : World) (B : Nat) (v : Value) (l : List Int) : Prop :=
  ∃ A c, v = .slice A l.length c ∧ l.length ≤ c ∧ c ≤ 9223372036854775807 ∧ (0 < l.length → ∃ g off, A = some ⟨g, off, none⟩ ∧ g < B ∧ ∀ j (h : j < l.length), w.cell? ⟨g, off + j, none⟩ = some (.int .i64 l[j]))

/-- Digits as ints. -/
def ni (l : List Nat) : List Int := l.map fun d : Nat => (d : Int)

/-- The slice value v reads as the digits l, below block B. -/
def RN (w : World) (B : Nat) (v : Value) (l : List Nat) : Prop := RI w B v (ni l)

theorem ni_length (l : List Nat) : (ni l).length = l.length := by simp [ni]
theorem ni_get (l : List Nat) (j : Nat) (h : j < (ni l).length) : (ni l)[j] = ((l[j]'(by simpa [ni] using h) : Nat) : Int) := by simp [ni]

section
variable {w w' : World} {B B' : Nat} {v : Value} {l : List Int}
theorem RI.keep (h : RI w B v l) (hk : ∀ p : Addr, p.block < B → w'.cell? p = w.cell? p) : RI w' B v l := by
  obtain ⟨A, c, hv, hc, hm, h0⟩ := h
  refine ⟨A, c, hv, hc, hm, fun hn => ?_⟩
  obtain ⟨g, off, hA, hg, hx⟩ := h0 hn
  exact ⟨g, off, hA, hg, fun j hj => (hk _ hg).trans (hx j hj)⟩
theorem RI.below (h : RI w B v l) (hb : Below B w w') : RI w' B v l := h.keep fun _ hp => hb.cell hp
theorem RI.more (h : RI w B v l) (hB : B ≤ B') : RI w B' v l := by
  obtain ⟨A, c, hv, hc, hm, h0⟩ := h
  refine ⟨A, c, hv, hc, hm, fun hn => ?_⟩
  obtain ⟨g, off, hA, hg, hx⟩ := h0 hn
  exact ⟨g, off, hA, by omega, hx⟩
theorem RI.drewN (h : RI w B v l) (n : Nat) : RI (w.drewN n) B v l := h
theorem RI.nil (w : World) (B : Nat) : RI w B (.slice none 0 0) [] := ⟨none, 0, rfl, Nat.le_refl _, by omega, fun h => absurd h (by simp)⟩
/-- A step: below the heap's size nothing has turned. -/
theorem RI.step (h : RI w w.heap.size v l) (hb : Below w.heap.size w w') : RI w' w'.heap.size v l := (h.below hb).more hb.size
theorem RN.step {l : List Nat} (h : RN w w.heap.size v l) (hb : Below w.heap.size w w') : RN w' w'.heap.size v l := RI.step h hb
theorem RN.cell {l : List Nat} (h : RN w B v l) : ∃ A c, v = .slice A l.length c ∧ l.length ≤ c ∧ c ≤ 9223372036854775807 ∧
    (0 < l.length → ∃ g off, A = some ⟨g, off, none⟩ ∧ g < B ∧ ∀ j (h : j < l.length), w.cell? ⟨g, off + j, none⟩ = some (.int .i64 (l[j] : Nat))) := by
  obtain ⟨A, c, hv, hc, hm, h0⟩ := h
  simp only [ni_length] at hv hc h0
  refine ⟨A, c, hv, hc, hm, fun hn => ?_⟩
  obtain ⟨g, off, hA, hg, hx⟩ := h0 hn
  exact ⟨g, off, hA, hg, fun j hj => by rw [hx j hj, ni_get]⟩
end

/-- The length of a slice value. -/
def lenOf : Value → Nat | .slice _ n _ => n | _ => 0
theorem nat_ne {x y : Nat} (h : ((x : Int) != (y : Int)) = true) : x ≠ y := by intro e; rw [e] at h; simp at h
theorem nat_eq {x y : Nat} (h : ((x : Int) != (y : Int)) = false) : x = y := by
  have : (x : Int) = y := by simpa using h
  omega
theorem beq_yes {x y : Int} (h : (x == y) = true) : x = y := eq_of_beq h
theorem beq_no {x y : Int} (h : (x == y) = false) : x ≠ y := by intro e; rw [e] at h; simp at h
theorem bne_yes {x y : Int} (h : (x != y) = true) : x ≠ y := by intro e; rw [e] at h; simp at h
theorem bne_no {x y : Int} (h : (x != y) = false) : x = y := by simpa using h
theorem ret_int {k : IntKind} {a b : Int} (h : a = b) : Ending.returned (.int k a) = .returned (.int k b) := by rw [h]
theorem below_drewN {B : Nat} {a w : World} (h : Below B a w) (n : Nat) : Below B a (w.drewN n) := ⟨h.os, h.tape, h.output, h.size, h.block⟩

/-- Block g is a row of ints of its own, whose first places read as l. -/
def Own (w : World) (g : Nat) (l : List Int) : Prop := ∃ tail : List Value, w.heap[g]? = some (.cells (l.map (Value.int .i64) ++ tail).toArray 3 (0, 0))
section
variable {w w' : World} {g : Nat} {l : List Int}
theorem Own.lt (h : Own w g l) : g < w.heap.size := by
  obtain ⟨tail, h⟩ := h
  rcases Nat.lt_or_ge g w.heap.size with hlt | hge
  · exact hlt
  · rw [Array.getElem?_eq_none hge] at h; cases h
theorem Own.cell (h : Own w g l) (j : Nat) (hj : j < l.length) : w.cell? ⟨g, j, none⟩ = some (.int .i64 l[j]) := by
  obtain ⟨tail, h⟩ := h
  have h2 : (l.map (Value.int .i64) ++ tail)[j]? = some (.int .i64 l[j]) := by
    rw [List.getElem?_append_left (by simpa using hj)]; simp [hj]
  simp only [World.cell?, h]
  simpa using h2
theorem Own.frozen (h : Own w g l) (j : Nat) : w.frozen? ⟨g, j, none⟩ = false := by
  obtain ⟨tail, h⟩ := h
  simp [World.frozen?, h]
theorem Own.drew (h : Own w g l) : Own w.drew g l := h
theorem Own.drewN (h : Own w g l) (n : Nat) : Own (w.drewN n) g l := h
theorem Own.of_block (h : Own w g l) (hb : w'.heap[g]? = w.heap[g]?) : Own w' g l := by
  obtain ⟨tail, h⟩ := h
  exact ⟨tail, hb.trans h⟩
theorem Own.alloc (h : Own w g l) (o : Obj) : Own (w.alloc o) g l := h.of_block (Below.heap_alloc w o g h.lt)
theorem Own.below {B : Nat} (h : Own w g l) (hb : Below B w w') (hg : g < B) : Own w' g l := h.of_block (hb.block g hg)
theorem Own.step (h : Own w g l) (hb : Below w.heap.size w w') : Own w' g l := h.below hb h.lt
theorem Own.far (h : Own w g l) {p : Addr} (hp : g ≠ p.block) (u : Value) : Own (w.setCell p u) g l := h.of_block (Below.heap_setCell w p u g hp)
theorem Own.set (h : Own w g l) (j : Nat) (x : Int) (hj : j < l.length) : Own (w.setCell ⟨g, j, none⟩ (.int .i64 x)) g (l.set j x) := by
  obtain ⟨tail, h⟩ := h
  refine ⟨tail, ?_⟩
  have h2 : (l.map (Value.int .i64) ++ tail).set j (.int .i64 x) = (l.set j x).map (Value.int .i64) ++ tail := by
    rw [List.set_append_left _ _ (by simpa using hj), List.map_set]
  simp only [World.setCell, Array.getElem?_modify, h, if_true, Option.map_some, List.setIfInBounds_toArray, h2]
  rfl
/-- A longer row, of which the first places are looked at. -/
theorem Own.first (h : Own w g l) (n : Nat) : Own w g (l.take n) := by
  obtain ⟨tail, h⟩ := h
  refine ⟨(l.drop n).map (Value.int .i64) ++ tail, ?_⟩
  rw [h, ← List.append_assoc, ← List.map_append, List.take_append_drop]
theorem Own.ri (h : Own w g l) (off n c : Nat) (hn : off + n ≤ l.length) (hc : n ≤ c) (hm : c ≤ 9223372036854775807) : RI w w.heap.size (.slice (some ⟨g, off, none⟩) n c) ((l.drop off).take n) := by
  have hl : ((l.drop off).take n).length = n := by simp; omega
  refine ⟨some ⟨g, off, none⟩, c, by rw [hl], by omega, hm, fun _ => ⟨g, off, rfl, h.lt, fun j hj => ?_⟩⟩
  rw [h.cell (off + j) (by omega)]
  simp
theorem Own.ri0 (h : Own w g l) (n c : Nat) (hn : n = l.length) (hc : n ≤ c) (hm : c ≤ 9223372036854775807) : RI w w.heap.size (.slice (some ⟨g, 0, none⟩) n c) l := by
  subst hn
  have := h.ri 0 l.length c (by omega) hc hm
  rwa [List.drop_zero, List.take_length] at this
end

/-- Only block g, and what is new, has turned. -/
def Only (g : Nat) (w w' : World) : Prop := w.grownBy w' (some g)
section
variable {g : Nat} {w w' w'' : World}
theorem Only.refl (g : Nat) (w : World) : Only g w w := ⟨rfl, rfl, rfl, Nat.le_refl _, fun _ _ _ => rfl⟩
theorem Only.trans (h : Only g w w') (k : Only g w' w'') : Only g w w'' :=
  ⟨k.os.trans h.os, k.tape.trans h.tape, k.output.trans h.output, Nat.le_trans h.size k.size, fun i hi hne => (k.block i (Nat.lt_of_lt_of_le hi h.size) hne).trans (h.block i hi hne)⟩
theorem Only.drewN (h : Only g w w') (n : Nat) : Only g w (w'.drewN n) := ⟨h.os, h.tape, h.output, h.size, h.block⟩
theorem Only.drew (h : Only g w w') : Only g w w'.drew := ⟨h.os, h.tape, h.output, h.size, h.block⟩
theorem Only.set (h : Only g w w') (j : Nat) (u : Value) : Only g w (w'.setCell ⟨g, j, none⟩ u) :=
  h.trans ⟨rfl, rfl, rfl, by simp [World.setCell], fun i _ hne => Below.heap_setCell _ _ _ _ (fun e => hne (by rw [e]))⟩
theorem Only.of_below (h : Below w.heap.size w w') : Only g w w' := ⟨h.os, h.tape, h.output, h.size, fun i hi _ => h.block i hi⟩
theorem Only.cell (h : Only g w w') {p : Addr} (hp : p.block < w.heap.size) (hne : p.block ≠ g) : w'.cell? p = w.cell? p :=
  World.cell?_of_block (h.block _ hp (fun e => hne (Option.some.inj e)))
theorem Only.below (h : Only g w w') {B : Nat} (hB : B ≤ g) (hs : B ≤ w.heap.size) : Below B w w' :=
  ⟨h.os, h.tape, h.output, h.size, fun k hk => h.block k (by omega) (fun e => by have := Option.some.inj e; omega)⟩
/-- A slice in another block reads as it did. -/
theorem RI.only {B : Nat} {v : Value} {l : List Int} (h : RI w B v l) (ho : Only g w w') (hB : B ≤ w.heap.size) (hg : B ≤ g) : RI w' B v l := h.below (ho.below hg hB)
end
/-- Place j, 0 beyond the end. -/
def at0 (l : List Int) (j : Nat) : Int := l.getD j 0
/-- The slice value v reads as l and lies not in block g. -/
def RIx (w : World) (B g : Nat) (v : Value) (l : List Int) : Prop :=
  ∃ A c, v = .slice A l.length c ∧ l.length ≤ c ∧ c ≤ 9223372036854775807 ∧ (0 < l.length → ∃ b off, A = some ⟨b, off, none⟩ ∧ b < B ∧ b ≠ g ∧ ∀ j, j < l.length → w.cell? ⟨b, off + j, none⟩ = some (.int .i64 (at0 l j)))

/-- v is a slice of the call's own blocks from base on (or nil), which reads as l. -/
def OwnV (w : World) (base : Nat) (v : Value) (l : List Int) : Prop := w.ownsRow base 3 1 v l.length (l.map (Value.int .i64))
section
variable {w w' : World} {base : Nat} {v : Value} {l : List Int}
theorem OwnV.form (h : OwnV w base v l) : (v = .slice none 0 0 ∧ l = []) ∨ ∃ g cap, v = .slice (some ⟨g, 0, none⟩) l.length cap ∧ l.length ≤ cap ∧ cap ≤ 9223372036854775807 ∧ base ≤ g ∧ Own w g l := by
  obtain ⟨_, h | ⟨g, cap, cur, hv, hb, hh, hn, hc, hs, ht⟩⟩ := h
  · exact .inl ⟨h.1, List.eq_nil_of_length_eq_zero h.2⟩
  · refine .inr ⟨g, cap, hv, hn, hc, hb, cur.toList.drop l.length, ?_⟩
    rw [hh, ← ht, Nat.mul_one, List.take_append_drop, Array.toArray_toList]
theorem OwnV.ri (h : OwnV w base v l) : RI w w.heap.size v l := by
  rcases h.form with ⟨rfl, rfl⟩ | ⟨g, cap, rfl, hn, hc, _, ho⟩
  · exact RI.nil _ _
  · exact ho.ri0 _ _ rfl hn hc
theorem OwnV.nil (w : World) (base : Nat) : OwnV w base (.slice none 0 0) [] := World.ownsRow_nil _ _ _ _
theorem OwnV.alloc (h : OwnV w base v l) (o : Obj) : OwnV (w.alloc o) base v l := World.ownsRow.alloc h o
theorem OwnV.drewN (h : OwnV w base v l) (n : Nat) : OwnV (w.drewN n) base v l := h
theorem OwnV.drew (h : OwnV w base v l) : OwnV w.drew base v l := h
theorem OwnV.step (h : OwnV w base v l) (hb : Below w.heap.size w w') : OwnV w' base v l := by
  obtain ⟨h1, h | ⟨g, cap, cur, hv, hg, hh, r⟩⟩ := h
  · exact ⟨h1, .inl h⟩
  · refine ⟨h1, .inr ⟨g, cap, cur, hv, hg, ?_, r⟩⟩
    rw [hb.block g (by
      rcases Nat.lt_or_ge g w.heap.size with hlt | hge
      · exact hlt
      · rw [Array.getElem?_eq_none hge] at hh; cases hh)]
    exact hh
end

/-- A new row of n zeros. -/
def zerosObj (n : Nat) : Obj := .cells ((List.replicate n (0 : Int)).map (Value.int .i64)).toArray 3 (0, 0)
theorem own_new (w : World) (n : Nat) : Own (w.alloc (zerosObj n)) w.heap.size (List.replicate n 0) := ⟨[], by rw [List.append_nil]; exact heap_alloc_new w _⟩
theorem set_next {α : Type} (done : List α) (z x : α) (m : Nat) : (done ++ List.replicate (m + 1) z).set done.length x = done ++ [x] ++ List.replicate m z := by
  rw [List.set_append_right _ _ (Nat.le_refl _), Nat.sub_self, List.replicate_succ, List.set_cons_zero]; simp
theorem ni_append (l m : List Nat) : ni (l ++ m) = ni l ++ ni m := by simp [ni]
theorem own_put {w : World} {g k m x : Nat} {d : List Nat} {y : Int} (ho : Own w g (ni d ++ List.replicate (m + 1) 0)) (hd : d.length = k) (hy : y = (x : Int)) :
    Own (w.setCell ⟨g, k, none⟩ (.int .i64 y)) g (ni (d ++ [x]) ++ List.replicate m 0) := by
  have h := ho.set k y (by simp [ni]; omega)
  rw [← hd, ← ni_length d, set_next, ni_length, hd] at h
  rw [ni_append]
  rw [hy] at h ⊢
  exact h
theorem own_next {w : World} {g k m : Nat} {d : List Nat} (ho : Own w g (ni d ++ List.replicate (m + 1) 0)) (hd : d.length = k) : w.cell? ⟨g, k, none⟩ = some (.int .i64 0) := by
  rw [ho.cell k (by simp [ni]; omega)]
  simp [ni, hd]
theorem ni_set (l : List Nat) (j x : Nat) : (ni l).set j (x : Int) = ni (l.set j x) := by simp [ni, List.map_set]
theorem ni_replicate (n : Nat) : List.replicate n (0 : Int) = ni (List.replicate n 0) := by simp [ni]
end Go.Proofs.YtnbanlmkoljghaaGreatDoor
