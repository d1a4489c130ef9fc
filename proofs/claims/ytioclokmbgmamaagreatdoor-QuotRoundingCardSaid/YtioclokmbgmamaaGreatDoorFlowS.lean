/- A region that draws, by facts, with a load that may come behind the first of the stores: the world's old blocks stand through them. -/
import Derived.Test.YtioclokmbgmamaaGreatDoorFlow
namespace Go.Proofs.YtioclokmbgmamaaGreatDoor
open Go Go.RowKit
section
variable {P:Program} {ops:Array Oper} {Q:Exit→Act→World→Prop} {md:Region.Mode}
end
end Go.Proofs.YtioclokmbgmamaaGreatDoor
