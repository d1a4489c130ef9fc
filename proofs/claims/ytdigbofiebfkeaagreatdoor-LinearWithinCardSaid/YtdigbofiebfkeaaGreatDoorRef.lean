/- Texts put together: The reference's Sum at two numbers of one sign, neither 0. The reference's Diff at two numbers of one sign, neither 0, the first not less without its sign. The reference's Diff at two numbers of one sign, neither 0. The reference's Sum and Diff at any two numbers (written by gen_rsd.py). The reference's told. The reference's Add and Sub at any two Longs, valid or not (written by gen_radd.py). The reference's Check. The reference's Order and Cmp. The reference's Neg at any Long. -/
import Derived.Test.YtdigbofiebfkeaaGreatDoorLow
import Derived.Test.YtdigbofiebfkeaaGreatDoorOps
import Derived.Maps.AppendAt
import Derived.Deep.RegionHeld3
import Derived.IntWalk
namespace Go.Proofs.YtdigbofiebfkeaaGreatDoor
open Go Go.RowKit Dig
theorem at_num (w:World) (v:Value) (l:List Nat) (k:Nat) (h:RN w w.heap.size v l) :
  Calls Tryz.prog 136 #[v,.int .i64 k] w fun e w'=>Below w.heap.size w w'∧e=.returned (.int .i64 ((l.getD k 0:Nat):Int)):=
 (At_any w v _ k h).mono fun e w' ⟨hw,he⟩=>⟨hw,by rw[he,at0_ni]⟩
end Go.Proofs.YtdigbofiebfkeaaGreatDoor
