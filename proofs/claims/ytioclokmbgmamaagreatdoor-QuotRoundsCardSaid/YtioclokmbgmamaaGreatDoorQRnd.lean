/- Plain facts of rounding fractions. -/
import Derived.Test.YtioclokmbgmamaaGreatDoorU
import Derived.Test.YtioclokmbgmamaaGreatDoorQL
namespace Go.Proofs.YtioclokmbgmamaaGreatDoor
open Go Go.RowKit Dig
theorem div_fact (a:Int) {b:Int} (hb:0<b):(Rat.divInt a b).num*b=a*((Rat.divInt a b).den:Int):=by
  have h1:Rat.divInt (Rat.divInt a b).num ((Rat.divInt a b).den:Int)=Rat.divInt a b:=Rat.num_divInt_den _;exact(Rat.divInt_eq_divInt_iff (Int.natCast_ne_zero.2 (Rat.den_nz _)) (by omega)).1 h1
end Go.Proofs.YtioclokmbgmamaaGreatDoor
