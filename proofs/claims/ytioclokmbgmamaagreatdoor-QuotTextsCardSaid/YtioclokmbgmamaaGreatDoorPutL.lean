/- A Long variable that is stored into: what holds whole numbers elsewhere stays. -/
import Derived.Test.YtioclokmbgmamaaGreatDoorOps
namespace Go.Proofs.YtioclokmbgmamaaGreatDoor
open Go Go.RowKit Dig
end Go.Proofs.YtioclokmbgmamaaGreatDoor
