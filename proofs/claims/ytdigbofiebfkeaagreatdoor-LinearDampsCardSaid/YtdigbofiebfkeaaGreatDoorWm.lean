/- Plain: the law LinearBest: sizes of normal equations of drafts and of their solutions. -/
import Derived.Test.YtdigbofiebfkeaaGreatDoorWhk
import Derived.Test.YtdigbofiebfkeaaGreatDoorLnz
namespace Go.Proofs.YtdigbofiebfkeaaGreatDoor
open Go Go.RowKit Dig
section
variable {N D:List Int} {f k n:Nat} {x:List Rat}
theorem normM_fr (hn:1≤n) (hn6:n≤6):∀ i j,FR 3600 51861600 (atQ (normM (rowsD N D k n)) i j):=fun i j=>by
 have h:=normM_frac (rowsD_wide k n) (rowsD_wq hn) (rowsD_frac (N:=N) (D:=D) k n) i j;rw[rowsD_len] at h;exact h.mono (by omega)
theorem normV_fr (hn:1≤n) (hn6:n≤6):∀ i,FR 3600 51861600 ((normV (rowsD N D k n) (listD N D f n)).getD i 0):=fun i=>by
 have h:=normV_frac (rowsD_wq hn) (rowsD_frac (N:=N) (D:=D) k n) (listD_frac (N:=N) (D:=D) f n) i;rw[rowsD_len] at h;exact h.mono (by omega)
theorem best_wide (hn:1≤n):Wide (normM (rowsD N D k n)) k:=by have:=normM_wide (rowsD N D k n);rwa [rowsD_wq hn] at this
theorem best_len (hn:1≤n):(normM (rowsD N D k n)).length=k:=by rw[normM_len,rowsD_wq hn]
end
theorem cmpR_le {q r:Rat}:cmpR q r≤0↔q≤r:=by
 unfold cmpR;rw[Rat.le_iff];have e:q.num*(r.den:Int)+-r.num*(q.den:Int)=q.num*(r.den:Int)-r.num*(q.den:Int):=by rw[Int.neg_mul];omega
 rw[e];generalize q.num*(r.den:Int)=u;generalize r.num*(q.den:Int)=v;rcases Int.lt_trichotomy (u-v) 0 with h | h | h
 ·rw[Int.sign_eq_neg_one_of_neg h];omega
 ·rw[h];simp;omega
 ·rw[Int.sign_eq_one_of_pos h];omega
end Go.Proofs.YtdigbofiebfkeaaGreatDoor
