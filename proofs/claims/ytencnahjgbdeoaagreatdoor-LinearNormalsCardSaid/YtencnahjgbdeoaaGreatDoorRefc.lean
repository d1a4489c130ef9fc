/- Texts put together. -/
import Derived.Test.YtencnahjgbdeoaaGreatDoorRefb
import Derived.Test.YtencnahjgbdeoaaGreatDoorLow
import Derived.Test.YtencnahjgbdeoaaGreatDoorOps
import Derived.Lib.IndexBytes
import Derived.Test.YtencnahjgbdeoaaGreatDoorDec
namespace Go.Proofs.YtencnahjgbdeoaaGreatDoor
open Go Go.RowKit Dig
section
variable {s:List UInt8} {r:Bool} (h:r=true↔(s=[48]∨∃ c r,eB s=c :: r∧AllDig (eB s)∧c≠48)) (h0:s≠[48])
include h h0
end
end Go.Proofs.YtencnahjgbdeoaaGreatDoor
