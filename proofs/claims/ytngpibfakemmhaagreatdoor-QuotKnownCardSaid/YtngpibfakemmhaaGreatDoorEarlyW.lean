/- One operation alone may come up in a region that draws, and its guard holds: Early's step with the guard told apart. -/
import Derived.Test.YtngpibfakemmhaaGreatDoorEarly
namespace Go.Proofs.YtngpibfakemmhaaGreatDoor
open Go Go.RowKit
theorem Early.nextw {P : Program} {ops : Array Oper} {Q : Exit → Act → World → Prop} {md : Region.Mode} {S : World → Prop} {t i : Nat} {o : Oper} {f : Nat} {listed : Array Bool} {a : Act} {w : World} (hr : Region.ready md ops listed = [i]) (ho : ops[i]? = some o) (hw : Region.wanted o (yielded ops a.tmps) = true)
    (h : ∀ K : Act → World → Prop, (∀ a w, (i < t → S w) → Early P md ops Q S t f (listed.setIfInBounds i true) a w → K a w) → Oper.wp P o a w K Q) :
    Early P md ops Q S t (f + 1) listed a w :=
  Early.next hr ho fun K hK => by rw [if_pos hw]; exact h K hK
end Go.Proofs.YtngpibfakemmhaaGreatDoor
