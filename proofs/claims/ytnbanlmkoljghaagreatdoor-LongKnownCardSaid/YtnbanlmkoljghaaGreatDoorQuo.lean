/- long.Div. -/
import Derived.Test.YtnbanlmkoljghaaGreatDoorSqrt
namespace Go.Proofs.YtnbanlmkoljghaaGreatDoor
open Go Go.RowKit Dig

/-- Two Longs and an error are returned. -/
def RetD (w' : World) (r : Int × Int × Int) (e : Ending) : Prop := ∃ v u, e = .returned (.tuple #[v, u, .int .i64 r.2.2]) ∧ LV w' w'.heap.size v r.1 ∧ LV w' w'.heap.size u r.2.1
/-- What Div answers. -/
def divZ (a b : Int) : Int × Int × Int := if b = 0 then (0, 0, 7) else (Int.tdiv a b, Int.tmod a b, 0)
def D2 : Option Int → Option Int → Int × Int × Int
  | some a, some b => divZ a b
  | _, _ => (0, 0, 30)
theorem D2_bad {na nb : Bool} {la lb : List Int} (h : ¬ (Valid na la ∧ Valid nb lb)) : D2 (numOf na la) (numOf nb lb) = (0, 0, 30) := by
  by_cases ha : Valid na la
  · have hb : ¬ Valid nb lb := fun hb => h ⟨ha, hb⟩
    rw [numOf_bad hb]
    cases numOf na la <;> rfl
  · rw [numOf_bad ha]; rfl
theorem results_cell_cell_tmp {fn : Func} {p q u : Tmp} {ty : TypeId} (h : fn.results = #[.cell p ty, .cell q ty, .tmp u]) (tmps : Array Value) (P : Program) (w : World) :
    (results fn tmps).run P w =
      ((asAddr (tmps.getD p undef)).run P w).andThen fun a w₁ => ((loadVar ty a).run P w₁).andThen fun v w₂ => ((asAddr (tmps.getD q undef)).run P w₂).andThen fun a' w₃ => ((loadVar ty a').run P w₃).andThen fun v' w₄ => .ok (.tuple #[v, v', tmps.getD u undef]) w₄ := by
  simp only [results, h]
  simp [Sem.run_bind, Result.andThen]
theorem LB.ret3 {fn : Func} {p q k : Tmp} (hf : fn.results = #[.cell p 24, .cell q 24, .tmp k]) {w : World} {b d : Nat} {x y x' y' : Value} (tmps : Array Value) (h : LB w b x y) (h' : LB w d x' y') (hp : tmps.getD p undef = .pointer (some ⟨b, 0, none⟩)) (hq : tmps.getD q undef = .pointer (some ⟨d, 0, none⟩)) :
    (results fn tmps).run Tryz.prog w = .ok (.tuple #[.agg #[x, y], .agg #[x', y'], tmps.getD k undef]) w := by
  rw [results_cell_cell_tmp hf, hp, hq]
  simp [asAddr, run_loadVar_row w b _ 24 #[x, y] (0, 0) _ h Tryz.underlying24 rfl (by kernel_rfl), run_loadVar_row w d _ 24 #[x', y'] (0, 0) _ h' Tryz.underlying24 rfl (by kernel_rfl)]
theorem end_div {fn : Func} {p q k : Tmp} (hf : fn.results = #[.cell p 24, .cell q 24, .tmp k]) {W w : World} {B b d : Nat} {x y s t : Value} {tmps : Array Value} {r : Int × Int × Int} (h : LB w b x s) (h' : LB w d y t) (hb : Below B W w)
    (hx : x = .bool (decide (r.1 < 0))) (hy : y = .bool (decide (r.2.1 < 0))) (hs : RI w w.heap.size s (ni (dig r.1.natAbs))) (ht : RI w w.heap.size t (ni (dig r.2.1.natAbs)))
    (hp : tmps.getD p undef = .pointer (some ⟨b, 0, none⟩)) (hq : tmps.getD q undef = .pointer (some ⟨d, 0, none⟩)) (hk : tmps.getD k undef = .int .i64 r.2.2) :
    bodyPost Tryz.prog fn (fun e w' => Below B W w' ∧ RetD w' r e) .ret ⟨tmps, []⟩ w := by
  refine bodyPost_ret (LB.ret3 hf tmps h h' hp hq) rfl ⟨hb, .agg #[x, s], .agg #[y, t], ?_, ?_, ?_⟩
  · rw [hk]
  · rw [hx]; exact ⟨s, rfl, hs⟩
  · rw [hy]; exact ⟨t, rfl, ht⟩

theorem RI.drewed {w : World} {B : Nat} {v : Value} {l : List Int} (h : RI w B v l) : RI w.drew B v l := h
theorem RI.zero {w : World} {B : Nat} {z : Int} (h : z = 0) : RI w B (.slice none 0 0) (ni (dig z.natAbs)) := by
  rw [h, show (0 : Int).natAbs = 0 from rfl, dig_zero]; exact RI.nil _ _
/-- The end of a function that returns two Longs and an error: both results are stored once more, behind a draw. -/
theorem end_div_again {fn : Func} {p q k : Tmp} (hf : fn.results = #[.cell p 24, .cell q 24, .tmp k]) {W w : World} {B b d : Nat} {x y : Bool} {A1 A2 : Option Addr} {n1 n2 c1 c2 : Nat} {tmps : Array Value} {r : Int × Int × Int}
    (h : LB w b (.bool x) (.slice A1 n1 c1)) (h' : LB w d (.bool y) (.slice A2 n2 c2)) (hne : b ≠ d) (hb : Below B W w) (hB : B ≤ b) (hB' : B ≤ d)
    (hx : x = decide (r.1 < 0)) (hy : y = decide (r.2.1 < 0)) (hs : RI w w.heap.size (.slice A1 n1 c1) (ni (dig r.1.natAbs))) (ht : RI w w.heap.size (.slice A2 n2 c2) (ni (dig r.2.1.natAbs)))
    (hp : tmps.getD p undef = .pointer (some ⟨b, 0, none⟩)) (hq : tmps.getD q undef = .pointer (some ⟨d, 0, none⟩)) (hk : tmps.getD k undef = .int .i64 r.2.2) :
    bodyPost Tryz.prog fn (fun e w' => Below B W w' ∧ RetD w' r e) .ret ⟨tmps, []⟩ ((((w.setCell ⟨b, 0, none⟩ (.bool x)).setCell ⟨b, 1, none⟩ (.slice A1 n1 c1)).setCell ⟨d, 0, none⟩ (.bool y)).setCell ⟨d, 1, none⟩ (.slice A2 n2 c2)).drew := by
  have l1 := h.set0 (.bool x)
  have l2 := l1.set1 (.slice A1 n1 c1)
  have m1 := h'.far (p := ⟨b, 0, none⟩) (fun e => hne e.symm) (.bool x)
  have m2 := m1.far (p := ⟨b, 1, none⟩) (fun e => hne e.symm) (.slice A1 n1 c1)
  have m3 := m2.set0 (.bool y)
  have m4 := m3.set1 (.slice A2 n2 c2)
  have l4 := (l2.far (p := ⟨d, 0, none⟩) hne (.bool y)).far (p := ⟨d, 1, none⟩) hne (.slice A2 n2 c2)
  have s4 := (((hs.setLB h 0 (.bool x)).setLB l1 1 (.slice A1 n1 c1)).setLB m2 0 (.bool y)).setLB m3 1 (.slice A2 n2 c2)
  have t4 := (((ht.setLB h 0 (.bool x)).setLB l1 1 (.slice A1 n1 c1)).setLB m2 0 (.bool y)).setLB m3 1 (.slice A2 n2 c2)
  have e : ((((w.setCell ⟨b, 0, none⟩ (.bool x)).setCell ⟨b, 1, none⟩ (.slice A1 n1 c1)).setCell ⟨d, 0, none⟩ (.bool y)).setCell ⟨d, 1, none⟩ (.slice A2 n2 c2)).drew.heap.size = w.heap.size := by simp [World.setCell]
  refine end_div hf l4.drew m4.drew ((((hb.setCell hB _).setCell hB _).setCell hB' _).setCell hB' _).drew (by rw [hx]) (by rw [hy]) ?_ ?_ hp hq hk
  · rw [e]; exact s4.drewed
  · rw [e]; exact t4.drewed

theorem tdiv_sign (a b : Int) : (if (!(decide (a < 0) == decide (b < 0))) then -((a.natAbs / b.natAbs : Nat) : Int) else ((a.natAbs / b.natAbs : Nat) : Int)) = Int.tdiv a b := by
  by_cases ha : a < 0 <;> by_cases hb : b < 0
  · obtain ⟨m, rfl⟩ : ∃ m : Nat, a = -(m : Int) := ⟨a.natAbs, by omega⟩
    obtain ⟨n, rfl⟩ : ∃ n : Nat, b = -(n : Int) := ⟨b.natAbs, by omega⟩
    rw [decide_eq_true ha, decide_eq_true hb, if_neg (by simp), Int.neg_tdiv_neg]; simp
  · obtain ⟨m, rfl⟩ : ∃ m : Nat, a = -(m : Int) := ⟨a.natAbs, by omega⟩
    obtain ⟨n, rfl⟩ : ∃ n : Nat, b = (n : Int) := ⟨b.natAbs, by omega⟩
    rw [decide_eq_true ha, decide_eq_false hb, if_pos (by simp), Int.neg_tdiv]; simp
  · obtain ⟨m, rfl⟩ : ∃ m : Nat, a = (m : Int) := ⟨a.natAbs, by omega⟩
    obtain ⟨n, rfl⟩ : ∃ n : Nat, b = -(n : Int) := ⟨b.natAbs, by omega⟩
    rw [decide_eq_false ha, decide_eq_true hb, if_pos (by simp), Int.tdiv_neg]; simp
  · obtain ⟨m, rfl⟩ : ∃ m : Nat, a = (m : Int) := ⟨a.natAbs, by omega⟩
    obtain ⟨n, rfl⟩ : ∃ n : Nat, b = (n : Int) := ⟨b.natAbs, by omega⟩
    rw [decide_eq_false ha, decide_eq_false hb, if_neg (by simp)]; simp
theorem tmod_sign (a b : Int) : (if decide (a < 0) then -((a.natAbs % b.natAbs : Nat) : Int) else ((a.natAbs % b.natAbs : Nat) : Int)) = Int.tmod a b := by
  rw [← Int.natAbs_tmod]
  by_cases ha : a < 0
  · rw [decide_eq_true ha, if_pos rfl]
    have := Int.tmod_nonneg b (show 0 ≤ -a by omega)
    rw [Int.neg_tmod] at this
    omega
  · rw [decide_eq_false ha, if_neg (by simp)]
    have := Int.tmod_nonneg b (show 0 ≤ a by omega)
    omega

set_option maxRecDepth 100000 in
set_option maxHeartbeats 1000000 in
theorem Div_any (w : World) (va vb : Value) (na nb : Bool) (la lb : List Int) (ha : LR w w.heap.size va na la) (hb : LR w w.heap.size vb nb lb) :
    Calls Tryz.prog 22 #[va, vb] w fun e w' => Below w.heap.size w w' ∧ RetD w' (D2 (numOf na la) (numOf nb lb)) e := by
  obtain ⟨sa, rfl, hsa⟩ := ha
  obtain ⟨sb, rfl, hsb⟩ := hb
  obtain ⟨P1, k1, rfl, _⟩ := (show RI _ _ _ _ from hsa)
  obtain ⟨P2, k2, rfl, _⟩ := (show RI _ _ _ _ from hsb)
  replace hsa := Lib.hid hsa
  replace hsb := Lib.hid hsb
  obtain ⟨r, hr⟩ : ∃ r, r = (D2 (numOf na la) (numOf nb lb)) := ⟨_, rfl⟩
  rw [← hr]
  replace hr := Lib.hid hr
  go_enter Tryz.func22, Tryz.ntmps22
  go_wp2_with fail
  refine (all_new _ _ na nb _ _ la lb 2 (by simp) (hsa.out.step (by (repeat' (first | exact Below.refl _ _ | refine Below.drew ?_ | refine Below.alloc ?_ (by first | exact Nat.le_refl _ | (simp; done) | (simp; omega)) _)))) (hsb.out.step (by (repeat' (first | exact Below.refl _ _ | refine Below.drew ?_ | refine Below.alloc ?_ (by first | exact Nat.le_refl _ | (simp; done) | (simp; omega)) _))))).mono ?_
  rintro e w2 ⟨hb2, c, rfl, hc⟩
  have La : LB w2 w.heap.size (.bool na) (.slice P1 la.length k1) := LB.of_block (by (repeat (first | (refine LB.new' ?_; simp; done) | refine LB.alloc ?_ _))) (hb2.block _ (by simp <;> omega))
  have Lb : LB w2 (w.heap.size + 1) (.bool nb) (.slice P2 lb.length k2) := LB.of_block (by (repeat (first | (refine LB.new' ?_; simp; done) | refine LB.alloc ?_ _))) (hb2.block _ (by simp <;> omega))
  have Lq : LB w2 (w.heap.size + 1 + 1) (.bool false) (.slice none 0 0) := LB.of_block (by (repeat (first | (refine LB.new' ?_; simp; done) | refine LB.alloc ?_ _))) (hb2.block _ (by simp <;> omega))
  have Lr : LB w2 (w.heap.size + 1 + 1 + 1) (.bool false) (.slice none 0 0) := LB.of_block (by (repeat (first | (refine LB.new' ?_; simp; done) | refine LB.alloc ?_ _))) (hb2.block _ (by simp <;> omega))
  have HB := Lib.hid ((show Below w.heap.size w _ from by (repeat' (first | exact Below.refl _ _ | refine Below.drew ?_ | refine Below.alloc ?_ (by first | exact Nat.le_refl _ | (simp; done) | (simp; omega)) _))).trans (hb2.mono (by simp <;> omega)))
  have qa0 := La.cell0
  have qa1 := La.cell1
  have qb0 := Lb.cell0
  have qb1 := Lb.cell1
  have qq0 := Lq.cell0
  have qq1 := Lq.cell1
  have qq2 := Lq.frozen 0
  have qq3 := Lq.frozen 1
  have qr0 := Lr.cell0
  have qr1 := Lr.cell1
  have qr2 := Lr.frozen 0
  have qr3 := Lr.frozen 1
  clear hb2
  rcases hc with ⟨hva, hvb, rfl⟩ | ⟨hv, rfl⟩
  · obtain ⟨a, hna, ha0, ha1, hla⟩ := numOf_valid hva
    obtain ⟨b, hnb, hb0, hb1, hlb⟩ := numOf_valid hvb
    have hr2 : r = divZ a b := by rw [hr.out, hna, hnb]; rfl
    have hsa2 : RN w2 w2.heap.size (.slice P1 la.length k1) (dig a.natAbs) := by rw [RN, ← ha1]; exact hsa.out.step HB.out
    have hsb2 : RN w2 w2.heap.size (.slice P2 lb.length k2) (dig b.natAbs) := by rw [RN, ← hb1]; exact hsb.out.step HB.out
    have HSA := Lib.hid hsa2
    have HSB := Lib.hid hsb2
    have HA0 := Lib.hid ha0
    have HB0 := Lib.hid hb0
    have HLA := Lib.hid hla
    have HLL := Lib.hid (show lb.length = (dig b.natAbs).length by rw [hb1, ni_length])
    clear hr hna hnb hva hvb ha0 hb0 ha1 hb1 hsa2 hsb2 hsa hsb hla hlb
    by_cases hz : b = 0
    · have hl0 : lb.length = 0 := by rw [HLL.out, hz, show (0 : Int).natAbs = 0 from rfl, dig_zero]; rfl
      have HR := Lib.hid (show r = (0, 0, 7) by rw [hr2, divZ, if_pos hz])
      rw [hl0] at qb1 ⊢
      clear hr2 hz
      go_wp2_with (go_region_with fail)
      all_goals
        go_wp2
        (try simp only [Exit.inBlock, Exit.then])
        (try go_simp)
        exact end_div_again rfl Lq Lr (by omega) HB.out (by omega) (by omega) (by rw [HR.out]; rfl) (by rw [HR.out]; rfl) (RI.zero (by rw [HR.out])) (RI.zero (by rw [HR.out])) rfl rfl (by rw [HR.out]; rfl)
    · have hl0 : 0 < lb.length := by rw [HLL.out]; exact dig_len_pos (by omega)
      have hl1 : ((lb.length : Int) == 0) = false := by rw [beq_eq_false_iff_ne]; omega
      have hlq : (dig (a.natAbs / b.natAbs)).length ≤ 600 := Nat.le_trans (dig_len_mono (Nat.div_le_self _ _)) HLA.out
      have hlr : (dig (a.natAbs % b.natAbs)).length ≤ 600 := Nat.le_trans (dig_len_mono (Nat.mod_le _ _)) HLA.out
      obtain ⟨q0, hq0⟩ : ∃ q0, q0 = Int.tdiv a b := ⟨_, rfl⟩
      obtain ⟨m0, hm0⟩ : ∃ m0, m0 = Int.tmod a b := ⟨_, rfl⟩
      have HQ := Lib.hid (show toldZ (if (!(na == nb)) then -((a.natAbs / b.natAbs : Nat) : Int) else ((a.natAbs / b.natAbs : Nat) : Int)) = (q0, 0) by
        rw [hq0, HA0.out, HB0.out, toldZ, if_pos (by rw [show ∀ (c : Bool) (n : Nat), (if c then -(n : Int) else n).natAbs = n from fun c n => by cases c <;> simp]; exact hlq), tdiv_sign])
      have HM := Lib.hid (show toldZ (if na then -((a.natAbs % b.natAbs : Nat) : Int) else ((a.natAbs % b.natAbs : Nat) : Int)) = (m0, 0) by
        rw [hm0, HA0.out, toldZ, if_pos (by rw [show ∀ (c : Bool) (n : Nat), (if c then -(n : Int) else n).natAbs = n from fun c n => by cases c <;> simp]; exact hlr), tmod_sign])
      have HR := Lib.hid (show r = (q0, m0, 0) by rw [hr2, divZ, if_neg hz, hq0, hm0])
      have HLQ := Lib.hid hlq
      have HLR := Lib.hid hlr
      clear hr2 hlq hlr hq0 hm0
      go_wp2_with fail
      refine (Over_any _ _ _ a.natAbs b.natAbs HSA.out HSB.out (by omega) (by have := HLA.out; omega)).mono ?_
      rintro e w3 ⟨hb3, v3, u3, rfl, hv3, hu3⟩
      have HV3 := Lib.hid hv3
      have HU3 := Lib.hid hu3
      have La3 := La.step hb3
      have Lb3 := Lb.step hb3
      have Lq3 := Lq.step hb3
      have Lr3 := Lr.step hb3
      have HB3 := Lib.hid (HB.out.trans (hb3.mono HB.out.size))
      clear qa0 qa1 qb0 qb1 qq0 qq1 qq2 qq3 qr0 qr1 qr2 qr3 hb3 hv3 hu3 hz
      have qa0 := La3.cell0
      have qb0 := Lb3.cell0
      go_wp2_with fail
      refine (told_any _ _ (!(na == nb)) _ HV3.out (by have := HLQ.out; omega)).mono ?_
      rintro e w4 ⟨hb4, hret⟩
      rw [HQ.out] at hret
      obtain ⟨v4, rfl, s4, rfl, hs4⟩ := hret
      obtain ⟨A4, k4, rfl, _⟩ := (show RI _ _ _ _ from hs4)
      have La4 := La3.step hb4
      have Lq4 := Lq3.step hb4
      have Lr4 := Lr3.step hb4
      have HB4 := Lib.hid (HB3.out.trans (hb4.mono HB3.out.size))
      have HU4 := Lib.hid (RN.step HU3.out hb4)
      have HS4 := Lib.hid hs4
      clear qa0 qb0 hb4 hs4 HU3
      have qa0 := La4.cell0
      have qq0 := Lq4.cell0
      have qq1 := Lq4.cell1
      have qq2 := Lq4.frozen 0
      have qq3 := Lq4.frozen 1
      go_wp2_with fail
      have hput := Lq4.put (q := decide (q0 < 0)) HS4.out
      have HU5 := Lib.hid ((HU4.out.setLB Lq4 0 (.bool (decide (q0 < 0)))).setLB (Lq4.set0 _) 1 (.slice A4 (ni (dig q0.natAbs)).length k4))
      have Lq5 := hput.1
      have HS5 := Lib.hid hput.2
      have La5 := (La4.far (p := ⟨w.heap.size + 1 + 1, 0, none⟩) (by simp; omega) (.bool (decide (q0 < 0)))).far (p := ⟨w.heap.size + 1 + 1, 1, none⟩) (by simp; omega) (.slice A4 (ni (dig q0.natAbs)).length k4)
      have Lr5 := (Lr4.far (p := ⟨w.heap.size + 1 + 1, 0, none⟩) (by simp) (.bool (decide (q0 < 0)))).far (p := ⟨w.heap.size + 1 + 1, 1, none⟩) (by simp) (.slice A4 (ni (dig q0.natAbs)).length k4)
      have HB5 := Lib.hid ((HB4.out.setCell (p := ⟨w.heap.size + 1 + 1, 0, none⟩) (by simp; omega) (.bool (decide (q0 < 0)))).setCell (p := ⟨w.heap.size + 1 + 1, 1, none⟩) (by simp; omega) (.slice A4 (ni (dig q0.natAbs)).length k4))
      clear hput qa0 qq0 qq1 qq2 qq3
      refine (told_any _ _ na _ (RI.more HU5.out (by simp [World.setCell])) (by have := HLR.out; omega)).mono ?_
      rintro e w6 ⟨hb6, hret⟩
      rw [HM.out] at hret
      obtain ⟨v6, rfl, s6, rfl, hs6⟩ := hret
      obtain ⟨A6, k6, rfl, _⟩ := (show RI _ _ _ _ from hs6)
      have Lq6 := Lq5.step hb6
      have Lr6 := Lr5.step hb6
      have HB6 := Lib.hid (HB5.out.trans (hb6.mono HB5.out.size))
      have HS6 := Lib.hid (HS5.out.step hb6)
      have HT6 := Lib.hid hs6
      clear hb6 hs6 HU5 HS5
      have qq0 := Lq6.cell0
      have qq1 := Lq6.cell1
      have qq2 := Lq6.frozen 0
      have qq3 := Lq6.frozen 1
      have qr0 := Lr6.cell0
      have qr1 := Lr6.cell1
      have qr2 := Lr6.frozen 0
      have qr3 := Lr6.frozen 1
      have hput := Lr6.put (q := decide (m0 < 0)) HT6.out
      have HT7 := Lib.hid hput.2
      have Lr7 := hput.1
      have HS7 := Lib.hid (RI.more ((HS6.out.setLB Lr6 0 (.bool (decide (m0 < 0)))).setLB (Lr6.set0 _) 1 (.slice A6 (ni (dig m0.natAbs)).length k6)) (by simp [World.setCell] : w6.heap.size ≤ ((w6.setCell ⟨w.heap.size + 1 + 1 + 1, 0, none⟩ (.bool (decide (m0 < 0)))).setCell ⟨w.heap.size + 1 + 1 + 1, 1, none⟩ (.slice A6 (ni (dig m0.natAbs)).length k6)).heap.size))
      have Lq7 := (Lq6.far (p := ⟨w.heap.size + 1 + 1 + 1, 0, none⟩) (by simp) (.bool (decide (m0 < 0)))).far (p := ⟨w.heap.size + 1 + 1 + 1, 1, none⟩) (by simp) (.slice A6 (ni (dig m0.natAbs)).length k6)
      have HB7 := Lib.hid ((HB6.out.setCell (p := ⟨w.heap.size + 1 + 1 + 1, 0, none⟩) (by simp; omega) (.bool (decide (m0 < 0)))).setCell (p := ⟨w.heap.size + 1 + 1 + 1, 1, none⟩) (by simp; omega) (.slice A6 (ni (dig m0.natAbs)).length k6))
      clear hput
      go_wp2_with (go_region_with fail)
      all_goals
        go_wp2
        (try simp only [Exit.inBlock, Exit.then])
        (try go_simp)
        exact end_div_again rfl Lq7 Lr7 (by omega) HB7.out (by omega) (by omega) (by rw [HR.out]) (by rw [HR.out]) (by rw [HR.out]; exact HS7.out) (by rw [HR.out]; exact HT7.out) rfl rfl (by rw [HR.out]; rfl)
  · have HR := Lib.hid (hr.out.trans (D2_bad hv))
    clear hr
    go_wp2_with (go_region_with fail)
    all_goals
      go_wp2
      (try simp only [Exit.inBlock, Exit.then])
      (try go_simp)
      exact end_div_again rfl Lq Lr (by omega) HB.out (by omega) (by omega) (by rw [HR.out]; rfl) (by rw [HR.out]; rfl) (RI.zero (by rw [HR.out])) (RI.zero (by rw [HR.out])) rfl rfl (by rw [HR.out]; rfl)
end Go.Proofs.YtnbanlmkoljghaaGreatDoor
