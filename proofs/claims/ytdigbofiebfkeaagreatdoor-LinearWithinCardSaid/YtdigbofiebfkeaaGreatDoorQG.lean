/- Layer 04: number (written by gen_qg.py). -/
import Derived.Test.YtdigbofiebfkeaaGreatDoorQF
namespace Go.Proofs.YtdigbofiebfkeaaGreatDoor
open Go Go.RowKit Dig
end Go.Proofs.YtdigbofiebfkeaaGreatDoor
