/- What this law needs besides. -/
import Derived.Test.YtioclokmbgmamaaGreatDoorArgsQ
import Derived.Test.YtioclokmbgmamaaGreatDoorQS
import Derived.Test.YtioclokmbgmamaaGreatDoorQW
namespace Go.Proofs.YtioclokmbgmamaaGreatDoor
open Go Go.RowKit Dig
theorem told_fit {z:Int} (h:Fit z):toldZ z=(z,0):=by unfold toldZ;exact if_pos h
def Len (k:Nat) (z:Int):Prop:=(dig z.natAbs).length≤k
theorem Len.fit {k:Nat} {z:Int} (h:Len k z) (hk:k≤600):Fit z:=Nat.le_trans h hk
theorem Len.mul {j k:Nat} {a b:Int} (h:Len j a) (h':Len k b):Len (j+k) (a*b):=by
 unfold Len;rw[Int.natAbs_mul];exact Nat.le_trans (dig_len_mul _ _) (Nat.add_le_add h h')
section
variable {w:World} {va vb:Value} {a b:Int}
theorem Mul_num (ha:LV w w.heap.size va a) (hb:LV w w.heap.size vb b) (fa:Fit a) (fb:Fit b) (f:Fit (a*b)) :
  Calls Tryz.prog 51 #[va,vb] w fun e w'=>Below w.heap.size w w'∧∃ v,e=.returned (.tuple #[v,.int .i64 0])∧LV w' w'.heap.size v (a*b):=by
 refine(Mul_any w va vb _ _ _ _ ha hb).mono fun e w' ⟨hw,h⟩=>⟨hw,?_⟩
 rw[numOf_dig fa,numOf_dig fb,show A2 (fun a b=>toldZ (a*b)) (some a) (some b)=(a*b,0) from told_fit f] at h;exact h
end
end Go.Proofs.YtioclokmbgmamaaGreatDoor
