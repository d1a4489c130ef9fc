/- Layer 04: Span, Near (written by gen_qm.py). -/
import Derived.Test.YtencnahjgbdeoaaGreatDoorQL
import Derived.Test.YtencnahjgbdeoaaGreatDoorQG
namespace Go.Proofs.YtencnahjgbdeoaaGreatDoor
open Go Go.RowKit Dig
theorem TU {w:World} {v:Value} {n m:Bool} {a b:List Int} (h:QR w w.heap.size v n a m b) (hq:nS n a m b=none) :
  CV 50 #[v] w fun e _=>e=.returned (.int .i64 40):=by
 have h1:=jX w v _ _ _ _ h;rw[jH hq] at h1;exact h1
end Go.Proofs.YtencnahjgbdeoaaGreatDoor
