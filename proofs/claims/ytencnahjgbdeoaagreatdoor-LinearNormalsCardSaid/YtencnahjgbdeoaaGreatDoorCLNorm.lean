/- The law LinearNormals: its row's statement and its card, out of its walk (written by gen_card.py). For every input that the row speaks of, the call returns true and the input reads as it did; the listed variables of Go's library hold what their text lays. -/
import Derived.Test.YtencnahjgbdeoaaGreatDoorLlay
import Derived.Test.YtencnahjgbdeoaaGreatDoorArgsR
import Derived.Test.YtencnahjgbdeoaaGreatDoorLNorm
namespace Go.Proofs.YtencnahjgbdeoaaGreatDoor.linearNormals
open Go Go.RowKit Go.WideShapes Go.ChangeShapes
open Go.ChangeMaps (open_string)
theorem types_good : (([5, 158, 31, 32, 34, 4, 3, 24, 26, 28, 23, 22, 30] : List TypeId).all fun t => uZ Tryz.prog [5, 158, 31, 32, 34, 4, 3, 24, 26, 28, 23, 22, 30] t) = true := by kernel_rfl
set_option maxRecDepth 100000 in
theorem contract (H : Type) (enc : TypeId × Value → H) (W : World) (base : Nat) (args : Array Value) (ds gs : List (DataW H)) (before : List MemPlace)
    (hval : ∀ (j : Nat) t v, Tryz.f4.params[j]? = some t → args[j]? = some v → Value.okWide Tryz.prog W .any base t v)
    (hW : DataW.Whole enc Tryz.prog Tryz.f4.params.toList Rows.linearNormalsSpec.vars false W args.toList ds gs before) (hL : laidMetH Tryz.prog Rows.linearNormalsRow.laid W) (hsh : W.ShapedOpen Tryz.prog) :
    Calls Tryz.prog 4 args W fun e W' => ∃ v, e = .returned v ∧ Rows.linearNormalsSpec.post enc Tryz.prog Tryz.f4 false true false false W args v W' := by
  have G : Glob W := aBz hL
  have M : MaxL W := aCy hsh
  have hW' := hW
  obtain ⟨p, q, hA0, hV, rfl, hfz, hnd⟩ := hW
  have hA : DataW.TrodAll enc Tryz.prog W 0 (fun _ => true) true Tryz.f4.params.toList args.toList ds p := hA0
  rw [Tryz.params4] at hA hval
  obtain ⟨v0, vs0, d0, ds0, p0, q0, hargs, rfl, rfl, h0, r0⟩ := trodAll_cons hA
  obtain ⟨v1, vs1, d1, ds1, p1, q1, rfl, rfl, rfl, h1, r1⟩ := trodAll_cons r0
  obtain ⟨v2, vs2, d2, ds2, p2, q2, rfl, rfl, rfl, h2, r2⟩ := trodAll_cons r1
  obtain ⟨rfl, rfl, rfl⟩ := trodAll_nil r2
  obtain rfl : args = #[v0, v1, v2] := by cases args; simp_all
  obtain ⟨rfl, rfl⟩ := trodVars_none hV
  obtain ⟨A0_, C0_, b0_, e0_, f0_, l0_, hr0_⟩ := aCt (hval 0 30 v0 (by simp) (by simp)) h0
  obtain ⟨r1_, c1_, N1_, D1_, hd1_⟩ := aAn (hval 1 34 v1 (by simp) (by simp)) h1
  obtain ⟨r2_, c2_, N2_, D2_, hd2_⟩ := aAn (hval 2 34 v2 (by simp) (by simp)) h2
  clear hA0
  simp only [aId] at hW'
  exact (LinearNormals_any W G M v0 A0_ C0_ b0_ e0_ f0_ l0_ hr0_ v1 r1_ c1_ N1_ D1_ hd1_ v2 r2_ c2_ N2_ D2_ hd2_).mono fun e W' ⟨hb, he⟩ => ⟨_, he, aCr types_good rfl (by kernel_rfl) Tryz.underlying4 rfl (by kernel_rfl) hW' hb⟩
theorem reads (os : Os) {H : Type} (enc : TypeId × Value → H) : ∃ places, DataW.whole enc Tryz.prog ((SP os).forCall (fun _ _ => 0) ⟨#[], #[(.agg #[.slice none 0 0, .slice none 0 0, .slice none 0 0, .slice none 0 0, .slice none 0 0, .bool false, .slice none 0 0, .bool false, .slice none 0 0] : Value), .agg #[.int .u8 0, .int .u8 0, .slice none 0 0, .slice none 0 0], .agg #[.int .u8 0, .int .u8 0, .slice none 0 0, .slice none 0 0]], []⟩).memory Tryz.f4.params.toList Rows.linearNormalsSpec.vars false #[(.agg #[.slice none 0 0, .slice none 0 0, .slice none 0 0, .slice none 0 0, .slice none 0 0, .bool false, .slice none 0 0, .bool false, .slice none 0 0] : Value), .agg #[.int .u8 0, .int .u8 0, .slice none 0 0, .slice none 0 0], .agg #[.int .u8 0, .int .u8 0, .slice none 0 0, .slice none 0 0]].toList 8 = some ([.agg [.nil, .nil, .nil, .nil, .nil, .agg [.agg [.lit (.bool false), .nil], .agg [.lit (.bool false), .nil]]], .agg [.lit (.int .u8 0), .lit (.int .u8 0), .nil, .nil], .agg [.lit (.int .u8 0), .lit (.int .u8 0), .nil, .nil]], [], places) :=
  ⟨[], by kernel_rfl⟩
set_option maxRecDepth 100000 in
theorem lifted (os : Os) (started : os.Started) (H : Type) (enc : TypeId × Value → H) (F : Stop.Interp) :
    ReturnsInHanded {} Tryz.checked os 4 .any ((OpenSpec.ofChange Rows.linearNormalsSpec).preRow enc Tryz.prog Tryz.f4 Rows.linearNormalsRow.domain false Rows.linearNormalsRow.laid) (((OpenSpec.ofChange Rows.linearNormalsSpec).at F).post enc Tryz.prog Tryz.f4 false true false false) := by
  obtain ⟨places, hx⟩ := reads os enc
  refine returnsInHanded_of_row (C := Tryz.checked) (s := OpenSpec.ofChange Rows.linearNormalsSpec) aCs started (by kernel_rfl) Tryz.func4
    (witness_row_atRef (enc := enc) (C := Tryz.checked) false (SP os) #[(.agg #[.slice none 0 0, .slice none 0 0, .slice none 0 0, .slice none 0 0, .slice none 0 0, .bool false, .slice none 0 0, .bool false, .slice none 0 0] : Value), .agg #[.int .u8 0, .int .u8 0, .slice none 0 0, .slice none 0 0], .agg #[.int .u8 0, .int .u8 0, .slice none 0 0, .slice none 0 0]] rfl (by kernel_rfl) (by kernel_rfl) (by kernel_rfl)
      (OpenSpec.preRow_of_cond 8 hx (by kernel_rfl) (fun k hk => by cases hk) (by kernel_rfl) (aCu os _))) ?_
  intro W base args ds gs before hval hW _ _ _ hL hsh _
  exact contract H enc W base args ds gs before hval hW hL hsh
theorem said : Rows.LinearNormalsSaid :=
  OpenClaim.holds_of_cond 4 Tryz.f4 rfl rfl rfl rfl rfl rfl rfl ⟨rfl, rfl, rfl, rfl, rfl⟩ rfl rfl rfl rfl rfl (by kernel_rfl) Tryz.func4 (by kernel_rfl)
    (aGw (by kernel_rfl)) (by unfold Func.isWrapper; first | (rw [aEv (by decide +kernel)]; kernel_rfl) | (rw [aEu (by decide +kernel)]; exact ⟨rfl, rfl⟩))
    (fun os started H enc _ F => by rw [OpenClaim.pre_eq_preRow]; exact lifted os started H enc F)
theorem plain (f : FuncId) (fn : Func) (hf : Tryz.pinned.checked.prog.funcNamed "monocle/monoclelaw35.LinearNormals" = some f) (hfn : Tryz.pinned.checked.prog.funcs[f]? = some fn) :
    true = Tryz.pinned.checked.prog.looks [] ∧ ∀ (j : Nat) t, fn.params[j]? = some t → Tryz.pinned.checked.prog.wantsStandIn t = false := by
  obtain rfl : f = 4 := aKh ((show Tryz.prog.funcNamed "monocle/monoclelaw35.LinearNormals" = some 4 by kernel_rfl).symm.trans hf) |>.symm
  obtain rfl : fn = Tryz.f4 := (aKh (Tryz.func4.symm.trans hfn)).symm
  refine ⟨by kernel_rfl, fun j t ht => ?_⟩
  rw [Tryz.params4] at ht
  have hm := aMu ht
  exact aEx.1 (show ([30, 34, 34] : List TypeId).all (fun t => Tryz.prog.wantsStandIn t == false) = true by kernel_rfl) t (by simpa using hm) |> eq_of_beq
theorem card : Rows.LinearNormalsCardSaid :=
  Claim7.holds_tied_plain_at .later [] _ _ _ _ said (fun _ h => by cases h) (by kernel_rfl) (fun _ h => by cases h) linearNormals_row_tie rfl ⟨rfl, rfl⟩ (by kernel_rfl) rfl plain (by kernel_rfl)
end Go.Proofs.YtencnahjgbdeoaaGreatDoor.linearNormals
