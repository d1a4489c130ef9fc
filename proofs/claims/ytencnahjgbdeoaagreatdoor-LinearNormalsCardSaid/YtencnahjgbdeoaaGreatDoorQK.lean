/- Layer 04. -/
import Derived.Test.YtencnahjgbdeoaaGreatDoorQJ
namespace Go.Proofs.YtencnahjgbdeoaaGreatDoor
open Go Go.RowKit Dig
end Go.Proofs.YtencnahjgbdeoaaGreatDoor
