/- Plain facts of rounding fractions. -/
import Derived.Test.YtioclokmbgmamaaGreatDoorU
import Derived.Test.YtioclokmbgmamaaGreatDoorQL
namespace Go.Proofs.YtioclokmbgmamaaGreatDoor
open Go Go.RowKit Dig
theorem divInt_times (q:Rat) {m:Int} (hm:m≠0):Rat.divInt (q.num*m) ((q.den:Int)*m)=q:=by
  rw[Rat.divInt_mul_right hm,Rat.num_divInt_den]
end Go.Proofs.YtioclokmbgmamaaGreatDoor
