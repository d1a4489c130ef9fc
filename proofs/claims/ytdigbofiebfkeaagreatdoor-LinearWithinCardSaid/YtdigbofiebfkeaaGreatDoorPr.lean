/- Texts put together: Drafts of Longs: Draft.Long, Draft.Short of the reference; size of the law package (written by gen_draft.py). The law package's own: a row of at most 60 places, of its own. The law package's pairs of a Two (written by gen_pairs.py). All four pairs; divisions of Longs that are not valid; the sign of a rest. All four pairs, each list of at most 60 entries; own gives the same list back. -/
import Derived.Test.YtdigbofiebfkeaaGreatDoorOps
import Derived.Test.YtdigbofiebfkeaaGreatDoorLow
import Derived.Test.YtdigbofiebfkeaaGreatDoorDec
import Derived.Deep.RegionHeld3
namespace Go.Proofs.YtdigbofiebfkeaaGreatDoor
open Go Go.RowKit Dig
theorem Check_good {w:World} {v:Value} {n:Bool} {l:List Int} (h:LR w w.heap.size v n l) (hv:Valid n l) :
  Calls Tryz.prog 89 #[v] w fun e w'=>Below w.heap.size w w'∧e=.returned (.int .i64 0):=by
 refine(Check_any w v _ _ h).mono fun e w' ⟨hw,c,he,hc⟩=>⟨hw,?_⟩
 rcases hc with ⟨_,hc⟩ | ⟨hn,_⟩
 ·rw[he,hc]
 ·exact absurd hv hn
theorem Check_bad {w:World} {v:Value} {n:Bool} {l:List Int} (h:LR w w.heap.size v n l) (hv:¬ Valid n l) :
  Calls Tryz.prog 89 #[v] w fun e w'=>Below w.heap.size w w'∧e=.returned (.int .i64 30):=by
 refine(Check_any w v _ _ h).mono fun e w' ⟨hw,c,he,hc⟩=>⟨hw,?_⟩
 rcases hc with ⟨hn,_⟩ | ⟨_,hc⟩
 ·exact absurd hn hv
 ·rw[he,hc]
end Go.Proofs.YtdigbofiebfkeaaGreatDoor
