/- Long variables: blocks of two cells. -/
import Derived.Test.YtnbanlmkoljghaaGreatDoorSame
import Derived.Laws.ResultCell
namespace Go.Proofs.YtnbanlmkoljghaaGreatDoor
open Go Go.RowKit

/-- A Long variable of its own block. -/
def LB (w : World) (b : Nat) (x y : Value) : Prop := w.heap[b]? = some (.cells #[x, y] 24 (0, 0))
section
variable {w w' : World} {b : Nat} {x y u : Value}
theorem LB.lt (h : LB w b x y) : b < w.heap.size := by
  rcases Nat.lt_or_ge b w.heap.size with hlt | hge
  · exact hlt
  · unfold LB at h; rw [Array.getElem?_eq_none hge] at h; cases h
theorem LB.cell0 (h : LB w b x y) : w.cell? ⟨b, 0, none⟩ = some x := by
  unfold LB at h; simp [World.cell?, h]
theorem LB.cell1 (h : LB w b x y) : w.cell? ⟨b, 1, none⟩ = some y := by
  unfold LB at h; simp [World.cell?, h]
theorem LB.frozen (h : LB w b x y) (j : Nat) : w.frozen? ⟨b, j, none⟩ = false := by
  unfold LB at h; simp [World.frozen?, h]
theorem LB.new (w : World) (x y : Value) : LB (w.alloc (.cells #[x, y] 24)) w.heap.size x y := heap_alloc_new w _
theorem LB.of_block (h : LB w b x y) (hb : w'.heap[b]? = w.heap[b]?) : LB w' b x y := hb.trans h
theorem LB.step (h : LB w b x y) (hb : Below w.heap.size w w') : LB w' b x y := h.of_block (hb.block b h.lt)
theorem LB.alloc (h : LB w b x y) (o : Obj) : LB (w.alloc o) b x y := h.of_block (Below.heap_alloc w o b h.lt)
theorem LB.far (h : LB w b x y) {p : Addr} (hp : b ≠ p.block) (u : Value) : LB (w.setCell p u) b x y := h.of_block (Below.heap_setCell w p u b hp)
theorem LB.set0 (h : LB w b x y) (u : Value) : LB (w.setCell ⟨b, 0, none⟩ u) b u y := by
  unfold LB at h ⊢
  simp [World.setCell, Array.getElem?_modify, h]
theorem LB.set1 (h : LB w b x y) (u : Value) : LB (w.setCell ⟨b, 1, none⟩ u) b x u := by
  unfold LB at h ⊢
  simp [World.setCell, Array.getElem?_modify, h]
theorem LB.drew (h : LB w b x y) : LB w.drew b x y := h
theorem LB.drewN (h : LB w b x y) (n : Nat) : LB (w.drewN n) b x y := h
/-- The results of a function that returns a Long and an error. -/
theorem LB.ret {fn : Func} {p k : Tmp} (hf : fn.results = #[.cell p 24, .tmp k]) (tmps : Array Value) (h : LB w b x y) (hp : tmps.getD p undef = .pointer (some ⟨b, 0, none⟩)) :
    (results fn tmps).run Tryz.prog w = .ok (.tuple #[.agg #[x, y], tmps.getD k undef]) w := by
  rw [results_cell_tmp hf, hp]
  simp [asAddr, run_loadVar_row w b _ 24 #[x, y] (0, 0) _ h Tryz.underlying24 rfl (by kernel_rfl)]
/-- The result of a function that returns a Long. -/
theorem LB.ret1 {fn : Func} {p : Tmp} (hf : fn.results = #[.cell p 24]) (tmps : Array Value) (h : LB w b x y) (hp : tmps.getD p undef = .pointer (some ⟨b, 0, none⟩)) :
    (results fn tmps).run Tryz.prog w = .ok (.agg #[x, y]) w :=
  results_cell_row hf tmps w b _ #[x, y] (0, 0) _ hp h Tryz.underlying24 rfl (by kernel_rfl)
/-- A slice of ints reads as it did behind a store into a Long variable. -/
theorem RI.setLB {B : Nat} {s : Value} {l : List Int} {p : Bool} {A : Option Addr} {n c : Nat} (h : RI w B s l) (hv : LB w b (.bool p) (.slice A n c)) (k : Nat) (u : Value) : RI (w.setCell ⟨b, k, none⟩ u) B s l := by
  obtain ⟨A', c', hs, hc, hm, h0⟩ := h
  refine ⟨A', c', hs, hc, hm, fun hp => ?_⟩
  obtain ⟨g, off, hA, hg, hx⟩ := h0 hp
  have hne : g ≠ b := by
    rintro rfl
    have h1 := hx 0 hp
    unfold LB at hv
    simp only [World.cell?, hv] at h1
    match off with
    | 0 => simp at h1
    | 1 => simp at h1
    | k + 2 => simp at h1
  exact ⟨g, off, hA, hg, fun j hj => (World.cell?_of_block (Below.heap_setCell _ _ _ _ hne)).trans (hx j hj)⟩
/-- Both parts of a Long are stored into a Long variable. -/
theorem LB.put {p q : Bool} {A : Option Addr} {n c : Nat} {s : Value} {l : List Int} (h : LB w b (.bool p) (.slice A n c)) (hs : RI w w.heap.size s l) :
    LB ((w.setCell ⟨b, 0, none⟩ (.bool q)).setCell ⟨b, 1, none⟩ s) b (.bool q) s ∧ RI ((w.setCell ⟨b, 0, none⟩ (.bool q)).setCell ⟨b, 1, none⟩ s) ((w.setCell ⟨b, 0, none⟩ (.bool q)).setCell ⟨b, 1, none⟩ s).heap.size s l := by
  refine ⟨(h.set0 _).set1 _, ?_⟩
  have h1 := (hs.setLB h 0 (.bool q)).setLB (h.set0 _) 1 s
  have e : ((w.setCell ⟨b, 0, none⟩ (.bool q)).setCell ⟨b, 1, none⟩ s).heap.size = w.heap.size := by simp [World.setCell]
  rw [e]; exact h1
end

/-- A Long and an error are returned: of the number and the code r. -/
def RetL (w' : World) (r : Int × Int) (e : Ending) : Prop := ∃ v, e = .returned (.tuple #[v, .int .i64 r.2]) ∧ LV w' w'.heap.size v r.1
theorem LV.zero (w : World) (B : Nat) : LV w B (.agg #[.bool false, .slice none 0 0]) 0 := ⟨_, rfl, by rw [show (0 : Int).natAbs = 0 from rfl, Dig.dig_zero]; exact RI.nil _ _⟩

/-- The end of a function that returns a Long and an error, where both parts have been stored. -/
theorem end_put {fn : Func} {p k : Tmp} (hf : fn.results = #[.cell p 24, .tmp k]) {W w : World} {B b : Nat} {q0 : Bool} {A : Option Addr} {n c : Nat} (hL : LB w b (.bool q0) (.slice A n c)) (hb : Below B W w) (hB : B ≤ b)
    {q : Bool} {s : Value} {z e : Int} {r : Int × Int} {tmps : Array Value} (hs : RI w w.heap.size s (ni (Dig.dig z.natAbs))) (hq : q = decide (z < 0)) (hr : r = (z, e)) (hp : tmps.getD p undef = .pointer (some ⟨b, 0, none⟩)) (hk : tmps.getD k undef = .int .i64 e) :
    bodyPost Tryz.prog fn (fun e w' => Below B W w' ∧ RetL w' r e) .ret ⟨tmps, []⟩ ((w.setCell ⟨b, 0, none⟩ (.bool q)).setCell ⟨b, 1, none⟩ s) := by
  obtain ⟨h1, h2⟩ := hL.put (q := q) hs
  refine bodyPost_ret (LB.ret hf tmps h1 hp) rfl ⟨(hb.setCell (by simpa using hB) _).setCell (by simpa using hB) _, .agg #[.bool q, s], ?_, ?_⟩
  · rw [hk, hr]
  · rw [hr, ← show z = (z, e).1 from rfl]
    exact ⟨s, by rw [hq], h2⟩
/-- The same, where the zero Long has been stored. -/
theorem end_zero {fn : Func} {p k : Tmp} (hf : fn.results = #[.cell p 24, .tmp k]) {W w : World} {B b : Nat} {q0 : Bool} {A : Option Addr} {n c : Nat} (hL : LB w b (.bool q0) (.slice A n c)) (hb : Below B W w) (hB : B ≤ b)
    {e : Int} {r : Int × Int} {tmps : Array Value} (hr : r = (0, e)) (hp : tmps.getD p undef = .pointer (some ⟨b, 0, none⟩)) (hk : tmps.getD k undef = .int .i64 e) :
    bodyPost Tryz.prog fn (fun e w' => Below B W w' ∧ RetL w' r e) .ret ⟨tmps, []⟩ ((w.setCell ⟨b, 0, none⟩ (.bool false)).setCell ⟨b, 1, none⟩ (.slice none 0 0)) :=
  end_put hf hL hb hB (z := 0) (by rw [show (0 : Int).natAbs = 0 from rfl, Dig.dig_zero]; exact RI.nil _ _) (by decide) hr hp hk
/-- The same, where nothing has been stored. -/
theorem end_none {fn : Func} {p k : Tmp} (hf : fn.results = #[.cell p 24, .tmp k]) {W w : World} {B b : Nat} (hL : LB w b (.bool false) (.slice none 0 0)) (hb : Below B W w)
    {e : Int} {r : Int × Int} {tmps : Array Value} (hr : r = (0, e)) (hp : tmps.getD p undef = .pointer (some ⟨b, 0, none⟩)) (hk : tmps.getD k undef = .int .i64 e) :
    bodyPost Tryz.prog fn (fun e w' => Below B W w' ∧ RetL w' r e) .ret ⟨tmps, []⟩ w := by
  refine bodyPost_ret (LB.ret hf tmps hL hp) rfl ⟨hb, .agg #[.bool false, .slice none 0 0], ?_, ?_⟩
  · rw [hk, hr]
  · rw [hr]; exact LV.zero _ _
end Go.Proofs.YtnbanlmkoljghaaGreatDoor
