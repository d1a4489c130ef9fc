/- The law LinearWithin: its row's statement and its card, out of its walk (written by gen_card.py). For every input that the row speaks of, the call returns true and the input reads as it did; the listed variables of Go's library hold what their text lays. -/
import Derived.Test.YtdigbofiebfkeaaGreatDoorLlay
import Derived.Test.YtdigbofiebfkeaaGreatDoorLWithin
namespace Go.Proofs.YtdigbofiebfkeaaGreatDoor.linearWithin
open Go Go.RowKit Go.WideShapes Go.ChangeShapes
open Go.ChangeMaps (open_string)
theorem types_good : (([5, 132, 22, 23, 25] : List TypeId).all fun t => goodAt Tryz.prog [5, 132, 22, 23, 25] t) = true := by kernel_rfl
set_option maxRecDepth 100000 in
theorem contract (H : Type) (enc : TypeId × Value → H) (W : World) (base : Nat) (args : Array Value) (ds gs : List (DataW H)) (before : List MemPlace)
    (hval : ∀ (j : Nat) t v, Tryz.f3.params[j]? = some t → args[j]? = some v → Value.okWide Tryz.prog W .any base t v)
    (hW : DataW.Whole enc Tryz.prog Tryz.f3.params.toList Rows.linearWithinSpec.vars false W args.toList ds gs before) (hL : laidMetH Tryz.prog Rows.linearWithinRow.laid W) (hsh : W.ShapedOpen Tryz.prog) :
    Calls Tryz.prog 3 args W fun e W' => ∃ v, e = .returned v ∧ Rows.linearWithinSpec.post enc Tryz.prog Tryz.f3 false true false false W args v W' := by
  have G : Glob W := laid_glob hL
  have M : MaxL W := maxL_of hsh
  have hW' := hW
  obtain ⟨p, q, hA0, hV, rfl, hfz, hnd⟩ := hW
  have hA : DataW.TrodAll enc Tryz.prog W 0 (fun _ => true) true Tryz.f3.params.toList args.toList ds p := hA0
  rw [Tryz.params3] at hA hval
  obtain ⟨v0, vs0, d0, ds0, p0, q0, hargs, rfl, rfl, h0, r0⟩ := trodAll_cons hA
  obtain ⟨v1, vs1, d1, ds1, p1, q1, rfl, rfl, rfl, h1, r1⟩ := trodAll_cons r0
  obtain ⟨v2, vs2, d2, ds2, p2, q2, rfl, rfl, rfl, h2, r2⟩ := trodAll_cons r1
  obtain ⟨v3, vs3, d3, ds3, p3, q3, rfl, rfl, rfl, h3, r3⟩ := trodAll_cons r2
  obtain ⟨rfl, rfl, rfl⟩ := trodAll_nil r3
  obtain rfl : args = #[v0, v1, v2, v3] := by cases args; simp_all
  obtain ⟨rfl, rfl⟩ := trodVars_none hV
  obtain ⟨r0_, c0_, N0_, D0_, hd0_⟩ := open_ldraft (hval 0 25 v0 (by simp) (by simp)) h0
  obtain ⟨r1_, c1_, N1_, D1_, hd1_⟩ := open_ldraft (hval 1 25 v1 (by simp) (by simp)) h1
  obtain ⟨a2, rfl, rfl, rfl, w2⟩ := open_int Tryz.underlying5 (hval 2 5 v2 (by simp) (by simp)) h2
  have b2 : 0 ≤ a2 ∧ a2 ≤ 255 := by simpa [Lit.wf, IntKind.min, IntKind.max, IntKind.signed, IntKind.bits] using w2
  obtain ⟨a3, rfl, rfl, rfl, w3⟩ := open_int Tryz.underlying5 (hval 3 5 v3 (by simp) (by simp)) h3
  have b3 : 0 ≤ a3 ∧ a3 ≤ 255 := by simpa [Lit.wf, IntKind.min, IntKind.max, IntKind.signed, IntKind.bits] using w3
  clear hA0
  simp only [List.append_nil] at hW'
  exact (LinearWithin_any W G M v0 r0_ c0_ N0_ D0_ hd0_ v1 r1_ c1_ N1_ D1_ hd1_ a2 b2.1 b2.2 a3 b3.1 b3.2).mono fun e W' ⟨hb, he⟩ => ⟨_, he, post_law types_good rfl (by kernel_rfl) Tryz.underlying4 rfl (by kernel_rfl) hW' hb⟩
theorem reads (os : Os) {H : Type} (enc : TypeId × Value → H) : ∃ places, DataW.whole enc Tryz.prog ((laidWorld os).forCall (fun _ _ => 0) ⟨#[], #[(.agg #[.int .u8 0, .int .u8 0, .slice none 0 0, .slice none 0 0] : Value), .agg #[.int .u8 0, .int .u8 0, .slice none 0 0, .slice none 0 0], .int .u8 0, .int .u8 0], []⟩).memory Tryz.f3.params.toList Rows.linearWithinSpec.vars false #[(.agg #[.int .u8 0, .int .u8 0, .slice none 0 0, .slice none 0 0] : Value), .agg #[.int .u8 0, .int .u8 0, .slice none 0 0, .slice none 0 0], .int .u8 0, .int .u8 0].toList 8 = some ([.agg [.lit (.int .u8 0), .lit (.int .u8 0), .nil, .nil], .agg [.lit (.int .u8 0), .lit (.int .u8 0), .nil, .nil], .lit (.int .u8 0), .lit (.int .u8 0)], [], places) :=
  ⟨[], by kernel_rfl⟩
set_option maxRecDepth 100000 in
theorem lifted (os : Os) (started : os.Started) (H : Type) (enc : TypeId × Value → H) (F : Stop.Interp) :
    ReturnsInHanded {} Tryz.checked os 3 .any ((OpenSpec.ofChange Rows.linearWithinSpec).preRow enc Tryz.prog Tryz.f3 Rows.linearWithinRow.domain false Rows.linearWithinRow.laid) (((OpenSpec.ofChange Rows.linearWithinSpec).at F).post enc Tryz.prog Tryz.f3 false true false false) := by
  obtain ⟨places, hx⟩ := reads os enc
  refine returnsInHanded_of_row (C := Tryz.checked) (s := OpenSpec.ofChange Rows.linearWithinSpec) own_knob started (by kernel_rfl) Tryz.func3
    (witness_row_atRef (enc := enc) (C := Tryz.checked) false (laidWorld os) #[(.agg #[.int .u8 0, .int .u8 0, .slice none 0 0, .slice none 0 0] : Value), .agg #[.int .u8 0, .int .u8 0, .slice none 0 0, .slice none 0 0], .int .u8 0, .int .u8 0] rfl (by kernel_rfl) (by kernel_rfl) (by kernel_rfl)
      (OpenSpec.preRow_of_cond 8 hx (by kernel_rfl) (fun k hk => by cases hk) (by kernel_rfl) (laid_met os _))) ?_
  intro W base args ds gs before hval hW _ _ _ hL hsh _
  exact contract H enc W base args ds gs before hval hW hL hsh
theorem said : Rows.LinearWithinSaid :=
  OpenClaim.holds_of_cond 3 Tryz.f3 rfl rfl rfl rfl rfl rfl rfl ⟨rfl, rfl, rfl, rfl, rfl⟩ rfl rfl rfl rfl rfl (by kernel_rfl) Tryz.func3 (by kernel_rfl)
    (of_decide_eq_true (by kernel_rfl)) (by unfold Func.isWrapper; first | (rw [if_pos (by decide +kernel)]; kernel_rfl) | (rw [if_neg (by decide +kernel)]; exact ⟨rfl, rfl⟩))
    (fun os started H enc _ F => by rw [OpenClaim.pre_eq_preRow]; exact lifted os started H enc F)
theorem plain (f : FuncId) (fn : Func) (hf : Tryz.pinned.checked.prog.funcNamed "monocle/monoclelaw35.LinearWithin" = some f) (hfn : Tryz.pinned.checked.prog.funcs[f]? = some fn) :
    true = Tryz.pinned.checked.prog.looks [] ∧ ∀ (j : Nat) t, fn.params[j]? = some t → Tryz.pinned.checked.prog.wantsStandIn t = false := by
  obtain rfl : f = 3 := Option.some.inj ((show Tryz.prog.funcNamed "monocle/monoclelaw35.LinearWithin" = some 3 by kernel_rfl).symm.trans hf) |>.symm
  obtain rfl : fn = Tryz.f3 := (Option.some.inj (Tryz.func3.symm.trans hfn)).symm
  refine ⟨by kernel_rfl, fun j t ht => ?_⟩
  rw [Tryz.params3] at ht
  have hm := Array.mem_of_getElem? ht
  exact List.all_eq_true.1 (show ([25, 25, 5, 5] : List TypeId).all (fun t => Tryz.prog.wantsStandIn t == false) = true by kernel_rfl) t (by simpa using hm) |> eq_of_beq
theorem card : Rows.LinearWithinCardSaid :=
  Claim7.holds_tied_plain_at .later [] _ _ _ _ said (fun _ h => by cases h) (by kernel_rfl) (fun _ h => by cases h) linearWithin_row_tie rfl ⟨rfl, rfl⟩ (by kernel_rfl) rfl plain (by kernel_rfl)
end Go.Proofs.YtdigbofiebfkeaaGreatDoor.linearWithin
