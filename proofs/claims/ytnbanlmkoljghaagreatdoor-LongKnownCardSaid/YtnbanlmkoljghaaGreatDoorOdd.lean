/- The operations at Longs of which the numbers are given by 'numOf', valid or not; for LongKnown. -/
import Derived.Test.YtnbanlmkoljghaaGreatDoorNin
import Derived.Test.YtnbanlmkoljghaaGreatDoorAny
import Derived.Maps.AppendAt
namespace Go.Proofs.YtnbanlmkoljghaaGreatDoor
open Go Go.RowKit Dig

theorem LR.zero (w : World) (B : Nat) : LR w B (.agg #[.bool false, .slice none 0 0]) false [] := ⟨_, rfl, RI.nil _ _⟩
theorem LR.alloc {w : World} {v : Value} {n : Bool} {l : List Int} (h : LR w w.heap.size v n l) (o : Obj) : LR (w.alloc o) (w.alloc o).heap.size v n l := h.step ((Below.refl _ _).alloc (Nat.le_refl _) o)
theorem LR.drew1 {w : World} {v : Value} {n : Bool} {l : List Int} (h : LR w w.heap.size v n l) : LR w.drew w.drew.heap.size v n l := h
/-- A Long with a single digit, whatever it is. -/
theorem LR.row1 (w : World) (d : Int) : LR (w.alloc (.cells #[.int .i64 d] 3)) (w.alloc (.cells #[.int .i64 d] 3)).heap.size (.agg #[.bool false, .slice (some ⟨w.heap.size, 0, none⟩) 1 1]) false [d] := by
  refine ⟨_, rfl, some ⟨w.heap.size, 0, none⟩, 1, rfl, by simp, by omega, fun _ => ⟨w.heap.size, 0, rfl, by simp, fun j hj => ?_⟩⟩
  obtain rfl : j = 0 := by simpa using hj
  exact cell_one_new w (.int .i64 d) 3 0 (.int .i64 d) rfl
theorem bad_zero : ¬ Valid false [0] := fun h => by
  obtain ⟨z, _, h2, _⟩ := h.num
  have h3 := dig_norm z.natAbs
  cases hd : dig z.natAbs with
  | nil => rw [hd] at h2; simp [ni] at h2
  | cons a m =>
    rw [hd] at h2 h3
    cases m with
    | nil =>
      have h4 : a = 0 := by simp [ni] at h2; omega
      exact h3.2 (by rw [h4]; rfl)
    | cons b m => simp [ni] at h2
theorem bad_digit {d : Int} (h : d < 0 ∨ 1000000000 ≤ d) : ¬ Valid false [d] := fun hv => by
  obtain ⟨z, _, h2, _⟩ := hv.num
  have h3 := dig_small z.natAbs
  cases hd : dig z.natAbs with
  | nil => rw [hd] at h2; simp [ni] at h2
  | cons a m =>
    rw [hd] at h2 h3
    have h4 := h3.head
    simp [ni] at h2
    omega
theorem bad_long {n : Bool} {l : List Int} (h : 600 < l.length) : ¬ Valid n l := fun hv => by
  obtain ⟨z, _, h2, h3⟩ := hv.num
  rw [h2] at h
  rw [ni_len] at h
  omega
theorem Repeat_nine (c : Nat) (w : World) (hc : c ≤ 1000000) :
    Calls Tryz.prog 57 #[.string ⟨#[57]⟩, .int .i64 c] w fun e w' => Below w.heap.size w w' ∧ ∃ s : ByteArray, e = .returned (.string s) ∧ s.data.toList = nine c := by
  have h := Tryz.strings_Repeat ⟨#[57]⟩ c w (by omega) (by show 1 * c ≤ _; omega)
  have e : Lib.repeatL (ByteArray.mk #[57]).data.toList c = List.replicate c 57 := by
    have := Lib.repeatL_replicate 57 1 c
    rw [Nat.mul_one] at this
    exact this
  rw [e] at h
  refine h.mono ?_
  rintro _ _ ⟨he, hb⟩
  exact ⟨hb, _, he, rfl⟩
theorem Repeat_half (w : World) :
    Calls Tryz.prog 57 #[.string ⟨#[57]⟩, .int .i64 2700] w fun e w' => Below w.heap.size w w' ∧ ∃ s : ByteArray, e = .returned (.string s) ∧ s.data.toList = nine 2700 := Repeat_nine 2700 w (by decide)
section
variable {w : World} {va vb : Value} {na nb : Bool} {la lb : List Int} {a z c : Int}
theorem of_lr {s : ByteArray} (hs : s.size ≤ 1000000) (h : parseZ s.data.toList = (a, 0)) (fa : Fit a) :
    Calls Tryz.prog 58 #[.string s] w fun e w' => Below w.heap.size w w' ∧ ∃ v n l, e = .returned v ∧ LR w' w'.heap.size v n l ∧ numOf n l = some a :=
  (of_num hs h).mono fun _ _ ⟨hw, v, he, hv⟩ => ⟨hw, v, _, _, he, hv, numOf_dig fa⟩
theorem of_most {T : Int} {s : ByteArray} (h0 : 0 < T) (hl : (dig T.natAbs).length = 600) (hs : s.size ≤ 1000000) (h : parseZ s.data.toList = (T, 0)) :
    Calls Tryz.prog 58 #[.string s] w fun e w' => Below w.heap.size w w' ∧ ∃ A c l, e = .returned (.agg #[.bool false, .slice A 600 c]) ∧ LR w' w'.heap.size (.agg #[.bool false, .slice A 600 c]) false l ∧ numOf false l = some T ∧ l.length = 600 :=
  (of_num hs h).mono fun e w' ⟨hw, v, he, hv⟩ => ⟨hw, by
    obtain ⟨A, c, rfl, -⟩ := hv.parts
    have hd : decide (T < 0) = false := decide_eq_false (by omega)
    have hn := numOf_dig (z := T) (by omega)
    rw [hd] at hn
    rw [hl, hd] at he
    rw [hl, hd] at hv
    have hv' : LR w' w'.heap.size (.agg #[.bool false, .slice A 600 c]) (decide (T < 0)) (ni (dig T.natAbs)) := hv
    rw [hd] at hv'
    exact ⟨A, c, _, he, hv', hn, by rw [ni_len]; exact hl⟩⟩
theorem valid_of (h : numOf na la = some z) : Valid na la := by
  by_cases hv : Valid na la
  · exact hv
  · rw [numOf_bad hv] at h; cases h
theorem Add_is (ha : LR w w.heap.size va na la) (hb : LR w w.heap.size vb nb lb) (h : A2 (fun a b => toldZ (a + b)) (numOf na la) (numOf nb lb) = (z, c)) :
    Calls Tryz.prog 43 #[va, vb] w fun e w' => Below w.heap.size w w' ∧ ∃ v, e = .returned (.tuple #[v, .int .i64 c]) ∧ LV w' w'.heap.size v z :=
  (Add_any w va vb _ _ _ _ ha hb).mono fun e w' ⟨hw, he⟩ => ⟨hw, by rw [h] at he; exact he⟩
theorem Sub_is (ha : LR w w.heap.size va na la) (hb : LR w w.heap.size vb nb lb) (h : A2 (fun a b => toldZ (a - b)) (numOf na la) (numOf nb lb) = (z, c)) :
    Calls Tryz.prog 44 #[va, vb] w fun e w' => Below w.heap.size w w' ∧ ∃ v, e = .returned (.tuple #[v, .int .i64 c]) ∧ LV w' w'.heap.size v z :=
  (Sub_any w va vb _ _ _ _ ha hb).mono fun e w' ⟨hw, he⟩ => ⟨hw, by rw [h] at he; exact he⟩
theorem Mul_is (ha : LR w w.heap.size va na la) (hb : LR w w.heap.size vb nb lb) (h : A2 (fun a b => toldZ (a * b)) (numOf na la) (numOf nb lb) = (z, c)) :
    Calls Tryz.prog 19 #[va, vb] w fun e w' => Below w.heap.size w w' ∧ ∃ v, e = .returned (.tuple #[v, .int .i64 c]) ∧ LV w' w'.heap.size v z :=
  (Mul_any w va vb _ _ _ _ ha hb).mono fun e w' ⟨hw, he⟩ => ⟨hw, by rw [h] at he; exact he⟩
theorem Gcd_is (ha : LR w w.heap.size va na la) (hb : LR w w.heap.size vb nb lb) (h : A2 (fun a b => toldZ (Int.gcd a b : Int)) (numOf na la) (numOf nb lb) = (z, c)) :
    Calls Tryz.prog 25 #[va, vb] w fun e w' => Below w.heap.size w w' ∧ ∃ v, e = .returned (.tuple #[v, .int .i64 c]) ∧ LV w' w'.heap.size v z :=
  (Gcd_any w va vb _ _ _ _ ha hb).mono fun e w' ⟨hw, he⟩ => ⟨hw, by rw [h] at he; exact he⟩
theorem Neg_is (ha : LR w w.heap.size va na la) (h : A1 (fun a => (-a, 0)) (numOf na la) = (z, c)) :
    Calls Tryz.prog 47 #[va] w fun e w' => Below w.heap.size w w' ∧ ∃ v, e = .returned (.tuple #[v, .int .i64 c]) ∧ LV w' w'.heap.size v z :=
  (Neg_any w va _ _ ha).mono fun e w' ⟨hw, he⟩ => ⟨hw, by rw [h] at he; exact he⟩
theorem Sqrt_is (ha : LR w w.heap.size va na la) (h : A1 sqrtZ (numOf na la) = (z, c)) :
    Calls Tryz.prog 33 #[va] w fun e w' => Below w.heap.size w w' ∧ ∃ v, e = .returned (.tuple #[v, .int .i64 c]) ∧ LV w' w'.heap.size v z :=
  (Sqrt_any w va _ _ ha).mono fun e w' ⟨hw, he⟩ => ⟨hw, by rw [h] at he; exact he⟩
theorem Parse_is {s : ByteArray} (hs : s.size ≤ 1000000) (h : parseZ s.data.toList = (z, c)) :
    Calls Tryz.prog 38 #[.string s] w fun e w' => Below w.heap.size w w' ∧ ∃ v, e = .returned (.tuple #[v, .int .i64 c]) ∧ LV w' w'.heap.size v z :=
  Parse_num hs h
theorem Int_is (ha : LR w w.heap.size va na la) (G : Glob w) (h : A1 intZ (numOf na la) = (z, c)) :
    Calls Tryz.prog 52 #[va] w fun e w' => Below w.heap.size w w' ∧ e = .returned (.tuple #[.int .i64 z, .int .i64 c]) :=
  (Int_any w va _ _ ha G).mono fun e w' ⟨hw, he⟩ => ⟨hw, by rw [h] at he; exact he⟩
theorem Text_is (ha : LR w w.heap.size va na la) (G : Glob w) (h : numOf na la = none) :
    Calls Tryz.prog 35 #[va] w fun e w' => Below w.heap.size w w' ∧ e = .returned (.tuple #[.string ⟨#[]⟩, .int .i64 30]) :=
  (Text_any w va _ _ ha G).mono fun e w' ⟨hw, he⟩ => ⟨hw, by rw [h] at he; exact he⟩
theorem Cmp_is (ha : LR w w.heap.size va na la) (hb : LR w w.heap.size vb nb lb) (h : A2 cmpZ (numOf na la) (numOf nb lb) = (z, c)) :
    Calls Tryz.prog 50 #[va, vb] w fun e w' => Below w.heap.size w w' ∧ e = .returned (.tuple #[.int .i64 z, .int .i64 c]) :=
  (CmpL_any w va vb _ _ _ _ ha hb).mono fun e w' ⟨hw, he⟩ => ⟨hw, by rw [h] at he; exact he⟩
theorem fails1_z {v : Value} {N : Nat} {Z : Int} (hZ : Z = 0) (hN : One w N 35 (.int .i64 c)) (hv : LV w w.heap.size v Z) :
    Calls Tryz.prog 97 #[v, .int .i64 c, .pointer (some ⟨N, 0, none⟩)] w fun e w' => Below w.heap.size w w' ∧ e = .returned (.bool true) := by
  subst hZ; exact fails1_yes w N c v hN hv
end
/-- The builtin append of ints to a slice of its own, under a guard that holds. -/
theorem append_guarded {P : Program} {w : World} {ops : Array Oper} {rest : List Oper} {o : Oper} {a : Act} {Q : Exit → Act → World → Prop} (hgd : Region.wanted o (yielded ops a.tmps) = true) (s x : Operand) (t : TypeId)
    (ho : o.op = .call { callee := .builtin .append, args := #[s, x], argTypes := #[t, t] })
    (base : Nat) (e : TypeId) (i : TypeInfo) (z : Value) (size bytes : Nat) (ht : P.underlying t = some (.slice e)) (hi : P.info? e = some i) (hz : i.zero = some z)
    (hsize : i.size = size) (hby : i.bytes = bytes) (hzs : z.cells.size = size) (hsz : 0 < size)
    (v : Value) (n : Nat) (xs : List Value) (hs : a.eval s = v) (hown : w.ownsRow base e size v n xs)
    (ad : Addr) (m c : Nat) (news : List Value) (hx : a.eval x = .slice (some ad) m c) (hl : news.length = m * size) (hnews : ∀ j u, news[j]? = some u → w.cell? (ad.add j) = some u) (h1 : ∀ u ∈ news, u.oneCell' = true)
    (h63 : n + m ≤ maxLen) (hbytes : (n + m) * bytes ≤ 140737488355328) (hbase : base ≤ w.heap.size)
    (h : ∀ v' w', w'.ownsRow base e size v' (n + m) (xs ++ news) → w.grownBy w' v.ownBlock → wpList P ops Q rest (a.put o.dst v') w') :
    wpList P ops Q (o :: rest) a w := by
  refine wpList_step fun K hK => ?_
  rw [if_pos hgd]
  obtain ⟨v', w', hr, h2, h3, h4, h5⟩ := run_append_own_at (P := P) w base t o.type e i z size bytes ht hi hz hsize hby hzs hsz v n xs hown ad m c news hl hnews h1 h63 hbytes hbase
  unfold Oper.wp execOp
  simp only [ho, resolve, invoke, builtin, Sem.run_bind, Sem.run_pure, Result.andThen_ok, List.map_toArray, List.map_cons, List.map_nil, hs, hx, hr]
  exact hK _ _ (h v' w' h2 h3)
theorem mid_len {z : Int} (h : z.natAbs < 1000000000000000000000000000000000000) : (dig z.natAbs).length ≤ 600 := Nat.le_trans (dig_len_le.2 (show z.natAbs < bp 4 from h)) (by omega)
theorem Same_self {w : World} {v : Value} {n : Bool} {l : List Int} (h : LR w w.heap.size v n l) :
    Calls Tryz.prog 40 #[v, v] w fun e w' => Below w.heap.size w w' ∧ e = .returned (.bool true) :=
  (Same_any w v v _ _ _ _ h h).mono fun e w' ⟨hw, he⟩ => ⟨hw, by rw [he]; simp⟩
theorem Same_not {w : World} {v u : Value} {n m : Bool} {l k : List Int} (h : LR w w.heap.size v n l) (h' : LR w w.heap.size u m k) (hne : l ≠ k) :
    Calls Tryz.prog 40 #[v, u] w fun e w' => Below w.heap.size w w' ∧ e = .returned (.bool false) :=
  (Same_any w v u _ _ _ _ h h').mono fun e w' ⟨hw, he⟩ => ⟨hw, by rw [he]; simp [hne]⟩
/-- The first and the second part of a sequence. -/
def kn_fst : Code → Code
  | .seq a _ => a
  | c => c
def kn_snd : Code → Code
  | .seq _ b => b
  | c => c
theorem app_list (a b : ByteArray) : (a ++ b).data.toList = a.data.toList ++ b.data.toList := by simp [ByteArray.data_append]
theorem size_list (a : ByteArray) : a.size = a.data.toList.length := by rw [ByteArray.size, Array.length_toList]
end Go.Proofs.YtnbanlmkoljghaaGreatDoor
