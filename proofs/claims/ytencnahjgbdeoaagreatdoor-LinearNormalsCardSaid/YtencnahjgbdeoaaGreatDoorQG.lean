/- Layer 04: number (written by gen_qg.py). -/
import Derived.Test.YtencnahjgbdeoaaGreatDoorQF
namespace Go.Proofs.YtencnahjgbdeoaaGreatDoor
open Go Go.RowKit Dig
end Go.Proofs.YtencnahjgbdeoaaGreatDoor
