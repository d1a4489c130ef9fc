/- The law package's small functions of layer 04. -/
import Derived.Test.YtencnahjgbdeoaaGreatDoorQN
namespace Go.Proofs.YtencnahjgbdeoaaGreatDoor
open Go Go.RowKit Dig
variable {x:Int}
theorem fG {s:List UInt8} (h:PJ s x=true):uW (mkRat x 1)=s:=by
 obtain⟨h1,h2⟩:=jC (x:=x) (y:=1) (by decide) (Nat.gcd_one_right _);rw[uW,aEv h2,h1];exact vL h
theorem lB {s1 s2:List UInt8} {d:Nat} (h1:PJ s1 x=true) (h2:PJ s2 (d:Int)=true) (hd:2≤d) (hg:Nat.gcd x.natAbs d=1):uW (mkRat x d)=s1++47 :: s2:=by
 obtain⟨e1,e2⟩:=jC (x:=x) (y:=d) (by omega) hg;rw[uW,aEu (by omega),e1,e2,vL h1,vL h2]
theorem eV {d:Nat} (hd:0<d) (hg:Nat.gcd x.natAbs d=1) (h1:x.natAbs<1000000000000000000000000000) (h2:d<1000000000000000000000000000):QL 600 600 (mkRat x d):=by
 obtain⟨e1,e2⟩:=jC (x:=x) (y:=d) hd hg;exact⟨by rw[e1];exact yP h1,by rw[e2];exact yP (z:=(d:Int)) (by simpa using h2)⟩
theorem cS {s:List UInt8} {q:Rat} (h:uW q=s) (l:QL 600 600 q):bR s=(some q,0):=by rw[← h];exact IL l
theorem yJ {a c:Rat} (h:a=c) (l:QL 600 600 c):gY a=(some c,0):=by rw[h];exact aEv l
theorem BK {y:Int} {c:Rat} (hy:y≠0) (h:Rat.divInt x y=c) (l:QL 600 600 c):MY x y=(some c,0):=by rw[MY,aEu hy];exact yJ h l
theorem QR.zero {w:World} {v:Value} (h:QR w w.heap.size v false [] false []):∃ A c A' c',v=.agg #[.bool false,.slice A 0 c,.bool false,.slice A' 0 c']:=by
 obtain⟨A,l,c,A',l',c',e,h1,h2⟩:=h;have e1:=RI.len h1;have e2:=RI.len h2;simp at e1 e2
 subst e1;subst e2;exact⟨A,c,A',c',e⟩
end Go.Proofs.YtencnahjgbdeoaaGreatDoor
