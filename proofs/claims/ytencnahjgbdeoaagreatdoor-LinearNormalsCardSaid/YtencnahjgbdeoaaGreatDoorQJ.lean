/- Layer 04: both (written by gen_qi.py). -/
import Derived.Test.YtencnahjgbdeoaaGreatDoorQI
namespace Go.Proofs.YtencnahjgbdeoaaGreatDoor
open Go Go.RowKit Dig
theorem FX (w:World) (va vb:Value) (q r:Rat) (ha:RV w w.heap.size va q) (hb:RV w w.heap.size vb r) (l1:QL 60000000 60000000 q) (l2:QL 60000000 60000000 r) :
  CV 64 #[va,vb] w fun e w'=>∃ v,e=.returned v∧RV w' w'.heap.size v (q+r):=ZV w va vb q r ha hb l1.1 l1.2 l2.1 l2.2
theorem QL.inv {a b:Nat} {q:Rat} (h:QL a b q) (h0:q≠0):QL b a q⁻¹:=by
 have hz:q.num≠0:=fun e=>h0 (aMf.1 e)
 unfold QL;rw[Rat.num_inv,Rat.den_inv,aEu hz,aGi,aJd hz,aIn,aEr];exact⟨h.2,h.1⟩
theorem QL.div {a b a' b':Nat} {q r:Rat} (h:QL a b q) (k:QL a' b' r) (h0:r≠0):QL (a+b') (b+a') (q / r):=by
 rw[aKk];exact h.mul (k.inv h0)
end Go.Proofs.YtencnahjgbdeoaaGreatDoor
