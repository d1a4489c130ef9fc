/- strings.Builder's methods, strings.Trim, strings.Repeat, strconv.Itoa and Atoi at this translation, in the words of this work. -/
import Derived.Test.YtnbanlmkoljghaaGreatDoorShelf
import Derived.Test.YtnbanlmkoljghaaGreatDoorGlob
import Derived.Test.YtnbanlmkoljghaaGreatDoorMem
import Derived.Test.YtnbanlmkoljghaaGreatDoorTxt
import Derived.WalkKit
namespace Go.Proofs.YtnbanlmkoljghaaGreatDoor
open Go Go.RowKit Go.Shelf Dig

/-- The builder in block b holds the bytes l. -/
def Bld (w : World) (B b : Nat) (l : List UInt8) : Prop := Lib.IsBuilderF 93 5 B b (Lib.byteCells l) w
theorem Bld.step {w w' : World} {B b : Nat} {l : List UInt8} (h : Bld w B b l) (hb : Below w.heap.size w w') : Bld w' B b l := by
  have one : ∀ p, Lib.BuilderAtF 93 5 B b p (Lib.byteCells l) w → Lib.BuilderAtF 93 5 B b p (Lib.byteCells l) w' := by
    intro p h
    have hlt := h.lt
    obtain ⟨hB, v, hbk, hown, hne⟩ := h
    exact ⟨hB, v, (hb.block b hlt).trans hbk, hown.kept (row := none) ⟨hb.os, hb.tape, hb.output, hb.size, fun i hi _ => hb.block i hi⟩ (by cases hv : v.ownBlock <;> simp), hne⟩
  exact h.elim (fun h => .inl (one _ h)) (fun h => .inr (one _ h))
theorem Bld.new (w : World) (B : Nat) (hB : B ≤ w.heap.size) : Bld (w.alloc (.cells #[.pointer none, .slice none 0 0] 93)) B w.heap.size [] :=
  .inl ⟨hB, .slice none 0 0, heap_alloc_new w _, ⟨rfl, .inl ⟨rfl, rfl⟩⟩, by simp [Value.ownBlock]⟩

theorem info_byte : (Tryz.prog.info? 5).map (fun i => (i.zero, i.size, i.bytes)) = some (some (.int .u8 0), 1, 1) := by kernel_rfl
theorem lays_copy : Go.Proofs.Lays.n240 Tryz.prog Tryz.lays105_ren := { Tryz.lays105 with }
theorem lays_wstr : Go.Proofs.Lays.n166 Tryz.prog Tryz.lays105_ren := { Tryz.lays105 with }
theorem copyCheck_k (B b : Nat) (bs : List Value) (w : World) (h : Lib.IsBuilderF 93 5 B b bs w) :
    Calls Tryz.prog 106 #[.pointer (some ⟨b, 0, none⟩)] w fun e w' => e = .returned (.tuple #[]) ∧ (Lib.BuilderAtF 93 5 B b (.pointer (some ⟨b, 0, none⟩)) bs w' ∧ Below B w w' ∧ Lib.OthersKept 5 (some b) w w') :=
  Any.Builder_copyCheck_k lays_copy Tryz.Builder_Extra_105.toX72 B b bs w h
/-- A string is written. -/
theorem WriteString_any (B b : Nat) (l m : List UInt8) (s : ByteArray) (w : World) (h : Bld w B b l) (hs : s.data.toList = m) (hlen : l.length + m.length ≤ 140737488355328) (hBw : B ≤ w.heap.size) :
    Calls Tryz.prog 80 #[.pointer (some ⟨b, 0, none⟩), .string s] w fun e w' => e = .returned (.tuple #[.int .i64 s.size, .nilIface]) ∧ Bld w' B b (l ++ m) ∧ Below B w w' := by
  subst hs
  have h1 := Any.Builder_WriteString_k lays_wstr Tryz.Builder_Extra_105 B b (Lib.byteCells l) s w h (by rw [Lib.byteCells_length, Lib.size_eq]; exact hlen) hBw
  refine h1.mono fun e w' ⟨he, hb, hbl, _⟩ => ⟨he, ?_, hbl⟩
  unfold Bld
  rw [Lib.byteCells_append, ← Lib.strCells_eq]
  exact .inr hb
set_option maxHeartbeats 2000000 in
set_option maxRecDepth 100000 in
/-- A byte is written. -/
theorem WriteByte_any (B b : Nat) (l : List UInt8) (x : UInt8) (c : Int) (hc : c = x.toNat) (w : World) (h : Bld w B b l) (hlen : l.length + 1 ≤ 140737488355328) (hBw : B ≤ w.heap.size) :
    Calls Tryz.prog 79 #[.pointer (some ⟨b, 0, none⟩), .int .u8 c] w fun e w' => e = .returned .nilIface ∧ Bld w' B b (l ++ [x]) ∧ Below B w w' := by
  have HL := Lib.hid (show (Lib.byteCells l).length + 1 ≤ 140737488355328 by rw [Lib.byteCells_length]; exact hlen)
  have HX := Lib.hid (show Lib.byteCells (l ++ [x]) = Lib.byteCells l ++ [.int .u8 c] by rw [Lib.byteCells_append, hc]; rfl)
  unfold Bld at h ⊢
  rw [HX.out]
  generalize Lib.byteCells l = bs at *
  clear HX hc hlen
  obtain ⟨i0, hi, hz0, hz1, hz2⟩ := info_parts info_byte
  go_enter Tryz.func79, Tryz.ntmps79
  go_wp2_with fail
  refine (copyCheck_k B b bs _ h).mono ?_
  rintro e w1 ⟨rfl, h1, hb1, _⟩
  obtain ⟨hB, v, hbk, hown, hne⟩ := h1
  have c0 : w1.cell? ⟨b, 0, none⟩ = some (.pointer (some ⟨b, 0, none⟩)) := by rw [Lib.cell_of_heap hbk]; rfl
  have c1 : w1.cell? ⟨b, 1, none⟩ = some v := by rw [Lib.cell_of_heap hbk]; rfl
  go_wp2_with (at_builtin; refine wpList_append_ownF _ rfl _ _ 54 rfl B 5 i0 (.int .u8 0) 1 1 Tryz.underlying54 hi hz0 hz1 hz2 rfl (by decide) _ _ _ rfl (hown.alloc _) ⟨w1.heap.size, 0, none⟩ 1 1 [.int .u8 c] rfl rfl ?c1 ?c2 ?c3 ?c4 ?c5 ?_)
  case c1 =>
    intro j u hj
    match j, hj with
    | 0, hj => simp at hj; subst hj; simp [Addr.add]
  case c2 => intro u hu; simp at hu; subst hu; rfl
  case c3 => have := HL.out; unfold maxLen; omega
  case c4 => have := HL.out; omega
  case c5 => have := hb1.size; simp; omega
  intro v' w2 hown' hgrow _
  have hlt : b < w1.heap.size := by
    rcases Nat.lt_or_ge b w1.heap.size with h' | h'
    · exact h'
    · simp [Array.getElem?_eq_none h'] at hbk
  have hb2 : w2.heap[b]? = some (.cells #[.pointer (some ⟨b, 0, none⟩), v] 93 (0, 0)) := by
    rw [hgrow.block b (by simp; omega) (fun e => hne e.symm), Lib.alloc_old w1 _ b hlt]
    exact hbk
  have d0 : w2.cell? ⟨b, 0, none⟩ = some (.pointer (some ⟨b, 0, none⟩)) := by rw [Lib.cell_of_heap hb2]; rfl
  have d1 : w2.cell? ⟨b, 1, none⟩ = some v := by rw [Lib.cell_of_heap hb2]; rfl
  have f1 : w2.frozen? ⟨b, 1, none⟩ = false := Lib.frozen_of_heap hb2 1
  obtain ⟨g, cap, rfl⟩ : ∃ g cap, v' = .slice (some ⟨g, 0, none⟩) (bs.length + 1) cap := by
    rcases hown'.2 with ⟨_, h0⟩ | ⟨g, cap, cur, fz, hv, _⟩
    · omega
    · exact ⟨g, cap, hv⟩
  go_wp2
  go_ret
  refine ⟨rfl, .inr ?_, ?_⟩
  · exact Lib.BuilderAtF.put (T := 93) (e := 5) hB hb2 (bs' := bs ++ [.int .u8 c]) (by simpa using hown') (by decide)
  · exact ((hb1.alloc (by have := hb1.size; omega) _).grown hgrow (by have := hb1.size; simp; omega) (fun k hk => (hown.lt k hk).1)).setCell (p := ⟨b, 1, none⟩) hB _
/-- The text is taken. -/
theorem String_any (B b : Nat) (l : List UInt8) (w : World) (h : Bld w B b l) (h0 : l ≠ []) :
    Calls Tryz.prog 81 #[.pointer (some ⟨b, 0, none⟩)] w fun e w' => e = .returned (.string ⟨l.toArray⟩) ∧ Below B w w' :=
  (Tryz.Builder_String_k B b l w h h0).mono fun _ _ ⟨he, _, hb, _⟩ => ⟨he, hb⟩

theorem Repeat_zeros (c : Nat) (w : World) (hc : c ≤ 1000000) :
    Calls Tryz.prog 57 #[.string ⟨#[48]⟩, .int .i64 c] w fun e w' => e = .returned (.string ⟨(List.replicate c 48).toArray⟩) ∧ Below w.heap.size w w' := by
  have h := Tryz.strings_Repeat ⟨#[48]⟩ c w (by omega) (by show 1 * c ≤ _; omega)
  have e : Lib.repeatL (ByteArray.mk #[48]).data.toList c = List.replicate c 48 := by
    have := Lib.repeatL_replicate 48 1 c
    rw [Nat.mul_one] at this
    exact this
  rwa [e] at h
theorem below_grow (w : World) (k : Nat) (os : Array Obj) : Below w.heap.size w (Sort.grow (w.drewN k) os) :=
  ⟨rfl, rfl, rfl, by simp [Sort.grow], fun i hi => by
    show (w.heap ++ os)[i]? = _
    rw [Array.getElem?_append_left hi]⟩
theorem Itoa_any (n : Int) (h0 : -9223372036854775808 ≤ n) (h1 : n ≤ 9223372036854775807) (w : World) (G : Glob w) :
    Calls Tryz.prog 56 #[.int .i64 n] w fun e w' => e = .returned (.string ⟨(Lib.itoa n).toArray⟩) ∧ Below w.heap.size w w' :=
  (Tryz.strconv_Itoa n h0 h1 w G.pow).mono fun _ _ ⟨he, k, os, hw⟩ => ⟨he, hw ▸ below_grow w k os⟩
theorem Atoi_yes (s : ByteArray) (hs : s.size ≤ 9223372036854775806) (v : Int) (h : Lib.atoiAll s.data.toList = .ok v) (w : World) :
    Calls Tryz.prog 84 #[.string s] w fun e w' => e = .returned (.tuple #[.int .i64 v, .nilIface]) ∧ Below w.heap.size w w' :=
  (Tryz.strconv_Atoi_ok s hs v h w).mono fun _ _ ⟨he, hw⟩ => ⟨he, by
    rcases hw with rfl | ⟨t, rfl⟩
    · exact Below.refl _ _
    · exact Lib.bytesWorld_below _ _ _⟩
theorem Atoi_big (s : ByteArray) (hs : s.size ≤ 281474976710656) (h : Lib.atoiAll s.data.toList = .range) (w : World) (G : Glob w) :
    Calls Tryz.prog 84 #[.string s] w fun e w' => ∃ n N, e = .returned (.tuple #[.int .i64 n, .iface 141 (.pointer (some ⟨N, 0, none⟩))]) ∧ Below w.heap.size w w' := by
  obtain ⟨tp, p, hv⟩ := G.rng
  exact (Tryz.strconv_Atoi_range_var s hs h tp p w hv).mono fun _ _ ⟨N, he, _, _, hb⟩ => ⟨_, N, he, hb⟩
theorem info_set : (Tryz.prog.info? 119).map (fun i => (i.zero, i.size)) = some (some (.agg (Array.replicate 256 (.bool false))), 256) := by kernel_rfl
/-- The ten digits. -/
def tens : ByteArray := ⟨#[48, 49, 50, 51, 52, 53, 54, 55, 56, 57]⟩
theorem tens_ascii (j : Nat) (b : UInt8) (h : tens.data.toList[j]? = some b) : b.toNat < 128 := by
  have h1 : ∀ x ∈ tens.data.toList, x.toNat < 128 := by decide
  exact h1 b (List.mem_of_getElem? h)
theorem tens_dig (c : UInt8) : tens.data.toList.contains c = true ↔ IsDig c := by
  have h1 : ∀ n : Fin 256, (tens.data.toList.contains (UInt8.ofNat n.val) = true) ↔ (48 ≤ n.val ∧ n.val ≤ 57) := by decide +kernel
  have h2 := h1 ⟨c.toNat, c.toNat_lt⟩
  simp only [UInt8.ofNat_toNat] at h2
  exact h2
theorem trim_tens (l : List UInt8) : Lib.trimS l tens.data.toList = [] ↔ AllDig l := by
  have key : ∀ m : List UInt8, m.dropWhile (tens.data.toList.contains ·) = [] ↔ AllDig m := by
    intro m
    induction m with
    | nil => exact ⟨fun _ => AllDig.nil, fun _ => rfl⟩
    | cons c m ih =>
      rw [List.dropWhile_cons]
      by_cases hc : tens.data.toList.contains c = true
      · rw [if_pos hc, ih]
        exact ⟨fun h => AllDig.cons ((tens_dig c).1 hc) h, fun h x hx => h x (List.mem_cons_of_mem _ hx)⟩
      · rw [if_neg hc]
        exact ⟨fun h => by simp at h, fun h => absurd ((tens_dig c).2 (h c (List.mem_cons_self ..))) hc⟩
  have rev : AllDig l.reverse ↔ AllDig l := ⟨fun h x hx => h x (List.mem_reverse.2 hx), fun h x hx => h x (List.mem_reverse.1 hx)⟩
  unfold Lib.trimS Lib.trimLeftS Lib.trimRightS
  rw [key]
  constructor
  · intro h
    refine rev.1 ((key _).1 ?_)
    cases hd : l.reverse.dropWhile (tens.data.toList.contains ·) with
    | nil => rfl
    | cons c m =>
      exfalso
      have hc : ¬ tens.data.toList.contains c = true := by
        have h1 := List.head_dropWhile_not (p := (tens.data.toList.contains ·)) (l := l.reverse) (by rw [hd]; simp)
        simp only [hd, List.head_cons] at h1
        exact fun h2 => by rw [h1] at h2; cases h2
      rw [hd] at h
      exact hc ((tens_dig c).2 (h c (by simp)))
  · intro h x hx
    have h1 := (key _).2 (rev.2 h)
    rw [h1] at hx
    simp at hx
set_option maxRecDepth 1000000 in
theorem TrimS_any (s : ByteArray) (w : World) (hs : s.size ≤ 9223372036854775807) :
    Calls Tryz.prog 83 #[.string s, .string ⟨#[48, 49, 50, 51, 52, 53, 54, 55, 56, 57]⟩] w fun e w' => ∃ t : ByteArray, e = .returned (.string t) ∧ (t.data.toList = [] ↔ AllDig s.data.toList) ∧ Below w.heap.size w w' :=
  (Any.strings_Trim_laid Tryz.lays160 info_set s tens w hs (by show 10 < 4294967281; omega) tens_ascii).mono fun _ _ ⟨he, hb⟩ => ⟨_, he, trim_tens _, hb⟩
end Go.Proofs.YtnbanlmkoljghaaGreatDoor
