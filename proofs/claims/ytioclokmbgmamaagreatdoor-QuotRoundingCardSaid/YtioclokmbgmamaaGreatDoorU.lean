/- What this law needs besides. -/
import Derived.Test.YtioclokmbgmamaaGreatDoorArgsQ
import Derived.Test.YtioclokmbgmamaaGreatDoorQS
import Derived.Test.YtioclokmbgmamaaGreatDoorQW
namespace Go.Proofs.YtioclokmbgmamaaGreatDoor
open Go Go.RowKit Dig
theorem told_fit {z:Int} (h:Fit z):toldZ z=(z,0):=by unfold toldZ;exact if_pos h
def Len (k:Nat) (z:Int):Prop:=(dig z.natAbs).length≤k
theorem Len.add {k:Nat} {a b:Int} (h:Len k a) (h':Len k b):Len (k+1) (a+b):=by
 have h1:=dig_len_add a.natAbs b.natAbs h h';exact Nat.le_trans (dig_len_mono (show(a+b).natAbs≤a.natAbs+b.natAbs by omega)) h1
section
variable {w:World} {va vb:Value} {a b:Int}
theorem Add_num (ha:LV w w.heap.size va a) (hb:LV w w.heap.size vb b) (fa:Fit a) (fb:Fit b) (f:Fit (a+b)) :
  Calls Tryz.prog 52 #[va,vb] w fun e w'=>Below w.heap.size w w'∧∃ v,e=.returned (.tuple #[v,.int .i64 0])∧LV w' w'.heap.size v (a+b):=by
 refine(Add_any w va vb _ _ _ _ ha hb).mono fun e w' ⟨hw,h⟩=>⟨hw,?_⟩
 rw[numOf_dig fa,numOf_dig fb,show A2 (fun a b=>toldZ (a+b)) (some a) (some b)=(a+b,0) from told_fit f] at h;exact h
end
end Go.Proofs.YtioclokmbgmamaaGreatDoor
