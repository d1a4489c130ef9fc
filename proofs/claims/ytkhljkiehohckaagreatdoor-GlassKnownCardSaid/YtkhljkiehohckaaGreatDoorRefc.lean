/- Texts put together: The reference's Int at any Long (written by gen_rint.py). The reference's Decimal at any number. The reference's form at any text (written by gen_rform.py). The reference's Text at any Long (written by gen_rtxt.py). The reference's Parse at any text (written by gen_rparse.py). -/
import Derived.Test.YtkhljkiehohckaaGreatDoorRefb
import Derived.Test.YtkhljkiehohckaaGreatDoorLow
import Derived.Test.YtkhljkiehohckaaGreatDoorOps
import Derived.Lib.IndexBytes
import Derived.Test.YtkhljkiehohckaaGreatDoorDec
namespace Go.Proofs.YtkhljkiehohckaaGreatDoor
open Go Go.RowKit Dig
end Go.Proofs.YtkhljkiehohckaaGreatDoor
namespace Go.Proofs.YtkhljkiehohckaaGreatDoor
open Go Go.RowKit Dig
end Go.Proofs.YtkhljkiehohckaaGreatDoor
namespace Go.Proofs.YtkhljkiehohckaaGreatDoor
open Go Go.RowKit Dig
section
variable {s:List UInt8} {r:Bool} (h:r=true↔(s=[48]∨∃ c r,bare s=c :: r∧AllDig (bare s)∧c≠48)) (h0:s≠[48])
include h h0
end
end Go.Proofs.YtkhljkiehohckaaGreatDoor
namespace Go.Proofs.YtkhljkiehohckaaGreatDoor
open Go Go.RowKit Dig
end Go.Proofs.YtkhljkiehohckaaGreatDoor
namespace Go.Proofs.YtkhljkiehohckaaGreatDoor
open Go Go.RowKit Dig
end Go.Proofs.YtkhljkiehohckaaGreatDoor
