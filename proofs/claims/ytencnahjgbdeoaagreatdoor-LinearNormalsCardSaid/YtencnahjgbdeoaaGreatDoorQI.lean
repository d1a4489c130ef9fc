/- Layer 04: all, Told, closures (written by gen_qi.py). -/
import Derived.Test.YtencnahjgbdeoaaGreatDoorQC
import Derived.Test.YtencnahjgbdeoaaGreatDoorQH
namespace Go.Proofs.YtencnahjgbdeoaaGreatDoor
open Go Go.RowKit Dig
variable {n:Bool}
theorem rC {a:List Int} {x:Int} (h:kB n a=some x):Valid n a∧n=decide (x<0)∧a=ni (dig x.natAbs)∧(dig x.natAbs).length≤600:=by
 by_cases hv:Valid n a
 ·obtain⟨z,h1,h2⟩:=fC hv;rw[h] at h1;injection h1 with h1;subst h1
  exact⟨hv,h2⟩
 ·rw[sR hv] at h;cases h
theorem QV.read {w:World} {B:Nat} {m:Bool} {A A':Option Addr} {l c l' c':Nat} {q:Rat} (h:QV w B (.agg #[.bool n,.slice A l c,.bool m,.slice A' l' c']) q):RV w B (.agg #[.bool n,.slice A l c,.slice A' l' c']) q:=
 aMd h.is.1 h.is.2.1 (fun _=>h.is.2.2.1)
theorem oP (w:World) (v:Value) (q:Rat) (h:RV w w.heap.size v q) (l:QL 300000000 300000000 q) :
  CV 55 #[v] w fun e w'=>uU w' (gY q) e:=by
 have h1:=XN w v q.num q.den h q.den_nz q.reduced l.1 l.2;rw[Rat.mkRat_self] at h1;exact h1
def aCi (o p:Option Rat):Int:=if o.isSome∧p.isSome then 0 else 40
theorem aCv {o p:Option Rat} {q r:Rat} (h:o=some q) (k:p=some r):aCi o p=0:=by rw[h,k];rfl
theorem aDb {o p:Option Rat} (h:o=none∨p=none):aCi o p=40:=by rcases h with h | h <;> rw[h] <;> cases o <;> cases p <;> rfl
theorem RI.of {w:World} {B:Nat} {v:Value} {a:List Int} {m:Bool} {b:List Int} (h:QR w B v n a m b):∃ A l c A' l' c',v=.agg #[.bool n,.slice A l c,.bool m,.slice A' l' c']∧QR w B (.agg #[.bool n,.slice A l c,.bool m,.slice A' l' c']) n a m b:=by
 have h1:=h;obtain⟨A,l,c,A',l',c',e,-⟩:=h;exact⟨A,l,c,A',l',c',e,e▸h1⟩
end Go.Proofs.YtencnahjgbdeoaaGreatDoor
