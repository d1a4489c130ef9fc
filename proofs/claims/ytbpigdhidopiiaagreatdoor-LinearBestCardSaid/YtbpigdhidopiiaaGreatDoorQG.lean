/- Layer 04: number (written by gen_qg.py). -/
import Derived.Test.YtbpigdhidopiiaaGreatDoorQF
namespace Go.Proofs.YtbpigdhidopiiaaGreatDoor
open Go Go.RowKit Dig
end Go.Proofs.YtbpigdhidopiiaaGreatDoor
