/- Layer 04: Span, Near (written by gen_qm.py). -/
import Derived.Test.YtdigbofiebfkeaaGreatDoorQL
import Derived.Test.YtdigbofiebfkeaaGreatDoorQG
namespace Go.Proofs.YtdigbofiebfkeaaGreatDoor
open Go Go.RowKit Dig
theorem QCheck_no {w:World} {v:Value} {n m:Bool} {a b:List Int} (h:QR w w.heap.size v n a m b) (hq:qOf n a m b=none) :
  Calls Tryz.prog 52 #[v] w fun e w'=>Below w.heap.size w w'∧e=.returned (.int .i64 40):=by
 have h1:=QCheck_any w v _ _ _ _ h;rw[chkQ_none hq] at h1;exact h1
end Go.Proofs.YtdigbofiebfkeaaGreatDoor
