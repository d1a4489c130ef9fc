/- The law GlassAbbes: its row's statement and its card, out of its walk (written by gen_card.py). For every input that the row speaks of, the call returns true and the input reads as it did; the listed variables of Go's library hold what their text lays. -/
import Derived.Test.YtkhljkiehohckaaGreatDoorGlay
import Derived.Test.YtkhljkiehohckaaGreatDoorGAbb
namespace Go.Proofs.YtkhljkiehohckaaGreatDoor.glassAbbes
open Go Go.RowKit Go.WideShapes Go.ChangeShapes
open Go.ChangeMaps (open_string)
theorem types_good : (([4, 3, 5, 22, 57, 62, 9, 23, 25, 27, 28] : List TypeId).all fun t => goodAt Tryz.prog [4, 3, 5, 22, 57, 62, 9, 23, 25, 27, 28] t) = true := by kernel_rfl
set_option maxRecDepth 100000 in
theorem contract (H : Type) (enc : TypeId × Value → H) (W : World) (base : Nat) (args : Array Value) (ds gs : List (DataW H)) (before : List MemPlace)
    (hval : ∀ (j : Nat) t v, Tryz.f7.params[j]? = some t → args[j]? = some v → Value.okWide Tryz.prog W .any base t v)
    (hW : DataW.Whole enc Tryz.prog Tryz.f7.params.toList Rows.glassAbbesSpec.vars false W args.toList ds gs before) (hL : laidMetH Tryz.prog Rows.glassAbbesRow.laid W) :
    Calls Tryz.prog 7 args W fun e W' => ∃ v, e = .returned v ∧ Rows.glassAbbesSpec.post enc Tryz.prog Tryz.f7 false true false false W args v W' := by
  have G : GF W := laid_gf hL
  have hW' := hW
  obtain ⟨p, q, hA0, hV, rfl, hfz, hnd⟩ := hW
  have hA : DataW.TrodAll enc Tryz.prog W 0 (fun _ => true) true Tryz.f7.params.toList args.toList ds p := hA0
  rw [Tryz.params7] at hA hval
  obtain ⟨v0, vs0, d0, ds0, p0, q0, hargs, rfl, rfl, h0, r0⟩ := trodAll_cons hA
  obtain ⟨v1, vs1, d1, ds1, p1, q1, rfl, rfl, rfl, h1, r1⟩ := trodAll_cons r0
  obtain ⟨v2, vs2, d2, ds2, p2, q2, rfl, rfl, rfl, h2, r2⟩ := trodAll_cons r1
  obtain ⟨v3, vs3, d3, ds3, p3, q3, rfl, rfl, rfl, h3, r3⟩ := trodAll_cons r2
  obtain ⟨rfl, rfl, rfl⟩ := trodAll_nil r3
  obtain rfl : args = #[v0, v1, v2, v3] := by cases args; simp_all
  obtain ⟨rfl, rfl⟩ := trodVars_none hV
  obtain ⟨d0_, hd0_, rfl⟩ := open_gdraft (hval 0 25 v0 (by simp) (by simp)) h0
  obtain ⟨what1_, ix1_, bn1_, tx1_, rfl, hwx1_, hix1_, htx1_⟩ := open_bend (hval 1 27 v1 (by simp) (by simp)) h1
  obtain ⟨a2, rfl, rfl, rfl, w2⟩ := open_int Tryz.underlying3 (hval 2 3 v2 (by simp) (by simp)) h2
  have b2 : -9223372036854775808 ≤ a2 ∧ a2 ≤ 9223372036854775807 := by simpa [Lit.wf, IntKind.min, IntKind.max, IntKind.signed, IntKind.bits] using w2
  obtain ⟨a3, rfl, rfl, rfl, w3⟩ := open_int Tryz.underlying3 (hval 3 3 v3 (by simp) (by simp)) h3
  have b3 : -9223372036854775808 ≤ a3 ∧ a3 ≤ 9223372036854775807 := by simpa [Lit.wf, IntKind.min, IntKind.max, IntKind.signed, IntKind.bits] using w3
  clear hA0
  simp only [List.append_nil] at hW'
  exact (GlassAbbes_any W G d0_ hd0_ what1_ ix1_ bn1_ tx1_ hwx1_ hix1_ htx1_ a2 b2 a3 b3).mono fun e W' ⟨hb, he⟩ => ⟨_, he, post_law types_good rfl (by kernel_rfl) Tryz.underlying4 rfl (by kernel_rfl) hW' hb⟩
theorem reads (os : Os) {H : Type} (enc : TypeId × Value → H) : ∃ places, DataW.whole enc Tryz.prog ((laidWorld os).forCall (fun _ _ => 0) ⟨#[], #[(.agg #[.int .u8 0, .int .i8 0, .int .i8 0, .int .i8 0, .int .i8 0, .int .i8 0, .int .i8 0, .int .u8 0, .int .u8 0, .int .u8 0] : Value), .agg #[.int .u8 0, .int .u8 0, .int .i64 0, .string .empty], .int .i64 0, .int .i64 0], []⟩).memory Tryz.f7.params.toList Rows.glassAbbesSpec.vars false #[(.agg #[.int .u8 0, .int .i8 0, .int .i8 0, .int .i8 0, .int .i8 0, .int .i8 0, .int .i8 0, .int .u8 0, .int .u8 0, .int .u8 0] : Value), .agg #[.int .u8 0, .int .u8 0, .int .i64 0, .string .empty], .int .i64 0, .int .i64 0].toList 8 = some ([.agg [.lit (.int .u8 0), .agg [.lit (.int .i8 0), .lit (.int .i8 0), .lit (.int .i8 0), .lit (.int .i8 0), .lit (.int .i8 0), .lit (.int .i8 0)], .lit (.int .u8 0), .lit (.int .u8 0), .lit (.int .u8 0)], .agg [.lit (.int .u8 0), .lit (.int .u8 0), .lit (.int .i64 0), .lit (.string [])], .lit (.int .i64 0), .lit (.int .i64 0)], [], places) :=
  ⟨[], by kernel_rfl⟩
set_option maxRecDepth 100000 in
theorem lifted (os : Os) (started : os.Started) (H : Type) (enc : TypeId × Value → H) (F : Stop.Interp) :
    ReturnsInHanded {} Tryz.checked os 7 .any ((OpenSpec.ofChange Rows.glassAbbesSpec).preRow enc Tryz.prog Tryz.f7 Rows.glassAbbesRow.domain false Rows.glassAbbesRow.laid) (((OpenSpec.ofChange Rows.glassAbbesSpec).at F).post enc Tryz.prog Tryz.f7 false true false false) := by
  obtain ⟨places, hx⟩ := reads os enc
  refine returnsInHanded_of_row (C := Tryz.checked) (s := OpenSpec.ofChange Rows.glassAbbesSpec) own_knob started (by kernel_rfl) Tryz.func7
    (witness_row_atRef (enc := enc) (C := Tryz.checked) false (laidWorld os) #[(.agg #[.int .u8 0, .int .i8 0, .int .i8 0, .int .i8 0, .int .i8 0, .int .i8 0, .int .i8 0, .int .u8 0, .int .u8 0, .int .u8 0] : Value), .agg #[.int .u8 0, .int .u8 0, .int .i64 0, .string .empty], .int .i64 0, .int .i64 0] rfl (by kernel_rfl) (by kernel_rfl) (by kernel_rfl)
      (OpenSpec.preRow_of_cond 8 hx (by kernel_rfl) (fun k hk => by cases hk) (by kernel_rfl) (laid_met os _))) ?_
  intro W base args ds gs before hval hW _ _ _ hL _ _
  exact contract H enc W base args ds gs before hval hW hL
theorem said : Rows.GlassAbbesSaid :=
  OpenClaim.holds_of_cond 7 Tryz.f7 rfl rfl rfl rfl rfl rfl rfl ⟨rfl, rfl, rfl, rfl, rfl⟩ rfl rfl rfl rfl rfl (by kernel_rfl) Tryz.func7 (by kernel_rfl)
    (of_decide_eq_true (by kernel_rfl)) (by unfold Func.isWrapper; first | (rw [if_pos (by decide +kernel)]; kernel_rfl) | (rw [if_neg (by decide +kernel)]; exact ⟨rfl, rfl⟩))
    (fun os started H enc _ F => by rw [OpenClaim.pre_eq_preRow]; exact lifted os started H enc F)
theorem plain (f : FuncId) (fn : Func) (hf : Tryz.pinned.checked.prog.funcNamed "monocle/monoclelaw09.GlassAbbes" = some f) (hfn : Tryz.pinned.checked.prog.funcs[f]? = some fn) :
    true = Tryz.pinned.checked.prog.looks [] ∧ ∀ (j : Nat) t, fn.params[j]? = some t → Tryz.pinned.checked.prog.wantsStandIn t = false := by
  obtain rfl : f = 7 := Option.some.inj ((show Tryz.prog.funcNamed "monocle/monoclelaw09.GlassAbbes" = some 7 by kernel_rfl).symm.trans hf) |>.symm
  obtain rfl : fn = Tryz.f7 := (Option.some.inj (Tryz.func7.symm.trans hfn)).symm
  refine ⟨by kernel_rfl, fun j t ht => ?_⟩
  rw [Tryz.params7] at ht
  have hm := Array.mem_of_getElem? ht
  exact List.all_eq_true.1 (show ([25, 27, 3, 3] : List TypeId).all (fun t => Tryz.prog.wantsStandIn t == false) = true by kernel_rfl) t (by simpa using hm) |> eq_of_beq
theorem card : Rows.GlassAbbesCardSaid :=
  Claim7.holds_tied_plain_at .later [] _ _ _ _ said (fun _ h => by cases h) (by kernel_rfl) (fun _ h => by cases h) glassAbbes_row_tie rfl ⟨rfl, rfl⟩ (by kernel_rfl) rfl plain (by kernel_rfl)
end Go.Proofs.YtkhljkiehohckaaGreatDoor.glassAbbes
