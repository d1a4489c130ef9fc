/- Plain: the law LinearBest: sizes of normal equations of drafts and of their solutions. -/
import Derived.Test.YtdigbofiebfkeaaGreatDoorWhk
import Derived.Test.YtdigbofiebfkeaaGreatDoorLnz
namespace Go.Proofs.YtdigbofiebfkeaaGreatDoor
open Go Go.RowKit Dig
section
variable {N D:List Int} {f k n:Nat} {x:List Rat}
end
theorem cmpR_le {q r:Rat}:cmpR q r≤0↔q≤r:=by
 unfold cmpR;rw[Rat.le_iff];have e:q.num*(r.den:Int)+-r.num*(q.den:Int)=q.num*(r.den:Int)-r.num*(q.den:Int):=by rw[Int.neg_mul];omega
 rw[e];generalize q.num*(r.den:Int)=u;generalize r.num*(q.den:Int)=v;rcases Int.lt_trichotomy (u-v) 0 with h | h | h
 ·rw[Int.sign_eq_neg_one_of_neg h];omega
 ·rw[h];simp;omega
 ·rw[Int.sign_eq_one_of_pos h];omega
end Go.Proofs.YtdigbofiebfkeaaGreatDoor
