/- An order that Go leaves open, where a condition on the world is wanted only of the operations below a number: loads ahead of stores into the same variables. -/
import Derived.OrdersHeld
import Derived.StillTail
import Derived.WalkKit
namespace Go.Proofs.YtioclokmbgmamaaGreatDoor
open Go Go.RowKit
section
variable {P : Program} {ops : Array Oper} {Q : Exit → Act → World → Prop} {md : Region.Mode} {S : World → Prop} {t : Nat}
def Early (P : Program) (md : Region.Mode) (ops : Array Oper) (Q : Exit → Act → World → Prop) (S : World → Prop) (t : Nat) : Nat → Array Bool → Act → World → Prop
  | 0, listed, a, w => Region.ready md ops listed = [] ∧ Q .normal a w
  | f + 1, listed, a, w => (Region.ready md ops listed = [] → Q .normal a w) ∧
    ∀ i ∈ Region.ready md ops listed, wpOp P ops Q i (fun a' w' => (i < t → S w') ∧ Early P md ops Q S t f (listed.setIfInBounds i true) a' w') a w
theorem Early.any : ∀ (f : Nat) (listed : Array Bool) (a : Act) (w : World), Early P md ops Q S t f listed a w → wpAny P md ops Q f listed a w
  | 0, _, _, _, h => h
  | f + 1, _, _, _, h => ⟨h.1, fun i hi => wpOp_mono (fun a' w' k => Early.any f _ a' w' k.2) (h.2 i hi)⟩
def reachB (md : Region.Mode) (ops : Array Oper) : Nat → Nat → Nat → Bool
  | 0, _, _ => false
  | f + 1, j, i => Region.waitsFor md ops j i || (List.range ops.size).any fun r => Region.waitsFor md ops j r && reachB md ops f r i
def Closed (md : Region.Mode) (ops : Array Oper) (listed : Array Bool) : Prop :=
  ∀ (j : Nat) (oj : Oper), ops[j]? = some oj → listed.getD j false = true → ∀ e ∈ oj.after, Region.binds md e = true → listed.getD e.on false = true
theorem Closed.reach {listed : Array Bool} (hc : Closed md ops listed) {i : Nat} : ∀ (f j : Nat), reachB md ops f j i = true → (∀ oj, ops[j]? = some oj → ∀ e ∈ oj.after, Region.binds md e = true → listed.getD e.on false = true) → listed.getD i false = true
  | 0, _, h, _ => by cases h
  | f + 1, j, h, hj => by
    unfold reachB at h
    rcases Bool.or_eq_true_iff.1 h with h | h
    · obtain ⟨oj, ho, e, he, hb, hon⟩ := Region.waitsFor_spec h
      rw [← hon]; exact hj oj ho e he hb
    · obtain ⟨r, -, hr⟩ := List.any_eq_true.1 h
      obtain ⟨h1, h2⟩ := Bool.and_eq_true_iff.1 hr
      obtain ⟨oj, ho, e, he, hb, hon⟩ := Region.waitsFor_spec h1
      have hl := hj oj ho e he hb
      rw [hon] at hl
      exact Closed.reach hc f r h2 fun orr hor => hc r orr hor hl
theorem getD_two {listed : Array Bool} {i : Nat} (h : listed.getD i true = false) : listed.getD i false = false := by
  by_cases hs : i < listed.size
  · simpa [hs] using h
  · simp [hs]
theorem getD_up {listed : Array Bool} {i j : Nat} (h : listed.getD i false = true) : (listed.setIfInBounds j true).getD i false = true := by
  by_cases hij : j = i
  · subst hij
    by_cases hs : j < listed.size
    · simp [hs]
    · simp [hs] at h
  · rwa [getD_set_ne false hij]
theorem Closed.set {listed : Array Bool} (hc : Closed md ops listed) {j : Nat} (hj : j ∈ Region.ready md ops listed) : Closed md ops (listed.setIfInBounds j true) := by
  intro k ok hk hl e he hb
  by_cases hjk : j = k
  · subst hjk
    obtain ⟨-, oj, hoj, hall⟩ := mem_ready.1 hj
    rw [hoj] at hk
    injection hk with hk
    subst hk
    exact getD_up (hall e he hb)
  · rw [getD_set_ne false hjk] at hl
    exact getD_up (hc k ok hk hl e he hb)
theorem Early.next {i : Nat} {o : Oper} {f : Nat} {listed : Array Bool} {a : Act} {w : World} (hr : Region.ready md ops listed = [i]) (ho : ops[i]? = some o)
    (h : ∀ K : Act → World → Prop, (∀ a w, (i < t → S w) → Early P md ops Q S t f (listed.setIfInBounds i true) a w → K a w) → if Region.wanted o (yielded ops a.tmps) = true then Oper.wp P o a w K Q else K (a.put o.dst undef) w) :
    Early P md ops Q S t (f + 1) listed a w := by
  refine ⟨fun h0 => absurd (hr ▸ h0) (by simp), fun j hj => ?_⟩
  rw [hr] at hj
  obtain rfl : j = i := by simpa using hj
  exact wpOp_step ho (fun K hK => h K (fun a w h1 h2 => hK a w ⟨h1, h2⟩))
theorem Early.done {listed : Array Bool} {a : Act} {w : World} (hr : Region.ready md ops listed = []) (h : Q .normal a w) : ∀ f, Early P md ops Q S t f listed a w
  | 0 => ⟨hr, h⟩
  | _ + 1 => ⟨fun _ => h, by rw [hr]; simp⟩
end
end Go.Proofs.YtioclokmbgmamaaGreatDoor
