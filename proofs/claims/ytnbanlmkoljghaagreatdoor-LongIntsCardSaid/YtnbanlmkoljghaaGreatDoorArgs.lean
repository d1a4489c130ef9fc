/- The laws' arguments, opened: what a Long, a Draft, a Two that comes in is in memory. -/
import Derived.Test.YtnbanlmkoljghaaGreatDoorCheck
import Derived.RowKit
namespace Go.Proofs.YtnbanlmkoljghaaGreatDoor
end Go.Proofs.YtnbanlmkoljghaaGreatDoor
