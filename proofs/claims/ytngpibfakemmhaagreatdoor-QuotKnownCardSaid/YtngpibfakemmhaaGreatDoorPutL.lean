/- A Long variable that is stored into: what holds whole numbers elsewhere stays. -/
import Derived.Test.YtngpibfakemmhaaGreatDoorOps
namespace Go.Proofs.YtngpibfakemmhaaGreatDoor
open Go Go.RowKit Dig
end Go.Proofs.YtngpibfakemmhaaGreatDoor
