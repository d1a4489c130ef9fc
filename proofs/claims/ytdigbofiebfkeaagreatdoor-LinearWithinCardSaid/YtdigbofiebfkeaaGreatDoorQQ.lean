/- The law package's small functions of layer 04: is, fails, says, spans, of (written by gen_qq.py). -/
import Derived.Test.YtdigbofiebfkeaaGreatDoorQN
namespace Go.Proofs.YtdigbofiebfkeaaGreatDoor
open Go Go.RowKit Dig
theorem lit_whole {s:List UInt8} {x:Int} (h:litB s x=true):textQ (mkRat x 1)=s:=by
 obtain⟨h1,h2⟩:=mkRat_low (x:=x) (y:=1) (by decide) (Nat.gcd_one_right _);rw[textQ,if_pos h2,h1];exact lit_itoa h
theorem lit_frac {s1 s2:List UInt8} {x:Int} {d:Nat} (h1:litB s1 x=true) (h2:litB s2 (d:Int)=true) (hd:2≤d) (hg:Nat.gcd x.natAbs d=1):textQ (mkRat x d)=s1++47 :: s2:=by
 obtain⟨e1,e2⟩:=mkRat_low (x:=x) (y:=d) (by omega) hg;rw[textQ,if_neg (by omega),e1,e2,lit_itoa h1,lit_itoa h2]
theorem lit_QL {x:Int} {d:Nat} (hd:0<d) (hg:Nat.gcd x.natAbs d=1) (h1:x.natAbs<1000000000000000000000000000) (h2:d<1000000000000000000000000000):QL 600 600 (mkRat x d):=by
 obtain⟨e1,e2⟩:=mkRat_low (x:=x) (y:=d) hd hg;exact⟨by rw[e1];exact small_len h1,by rw[e2];exact small_len (z:=(d:Int)) (by simpa using h2)⟩
theorem parse_lit {s:List UInt8} {q:Rat} (h:textQ q=s) (l:QL 600 600 q):parseQ s=(some q,0):=by rw[← h];exact parse_textQ l
theorem toldQ_lit {a c:Rat} (h:a=c) (l:QL 600 600 c):toldQ a=(some c,0):=by rw[h];exact if_pos l
theorem mkQ_lit {x y:Int} {c:Rat} (hy:y≠0) (h:Rat.divInt x y=c) (l:QL 600 600 c):mkQ x y=(some c,0):=by rw[mkQ,if_neg hy];exact toldQ_lit h l
end Go.Proofs.YtdigbofiebfkeaaGreatDoor
