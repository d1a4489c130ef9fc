/- Plain mathematics of layer 04: texts of fractions. -/
import Derived.Test.YtencnahjgbdeoaaGreatDoorQde
import Derived.Lib.IndexMore
import Derived.Lib.Strings
namespace Go.Proofs.YtencnahjgbdeoaaGreatDoor
open Go Go.RowKit Dig
theorem EI:∀ {s:List UInt8},47∉s→Lib.index s [47]=-1
  | [],_=>rfl
  | c :: l,h=>by
    have h1:c≠47:=fun e=>h (by rw[e];exact aFh ..)
    have h2:=EI (s:=l) fun k=>h (aFo _ k)
    unfold Lib.index;rw[h2,aEu (by simp[List.isPrefixOf];exact fun e=>h1 e.symm)]
    rfl
theorem EG:∀ {a b:List UInt8},47∉a→Lib.index (a++47 :: b) [47]=(a.length:Int)
  | [],b,_=>by
    show Lib.index (47 :: b) [47]=0
    unfold Lib.index;rw[aEv (by simp[List.isPrefixOf])]
  | c :: l,b,h=>by
    have h1:c≠47:=fun e=>h (by rw[e];exact aFh ..)
    have h2:=EG (a:=l) (b:=b) fun k=>h (aFo _ k)
    show Lib.index (c :: (l++47 :: b)) [47]=_
    unfold Lib.index;rw[h2,aEu (by simp[List.isPrefixOf];exact fun e=>h1 e.symm)];have:((l.length:Int)==-1)=false:=by rw[aEo];omega
    simp[this]
theorem FF {s:List UInt8} (h:47∉s):Lib.cut s [47]=(s,[],false):=by
  unfold Lib.cut;rw[EI h,aEu (by decide)]
theorem FE {a b:List UInt8} (h:47∉a):Lib.cut (a++47 :: b) [47]=(a,b,true):=by
  unfold Lib.cut;rw[EG h,aEv (by omega)];simp
theorem OI:∀ s:List UInt8,47∉s∨∃ a b,47∉a∧s=a++47 :: b
  | []=>.inl (by simp)
  | c :: l=>by
    by_cases hc:c=47
    · exact .inr ⟨[],l,by simp,by rw[hc];rfl⟩
    · rcases OI l with h | ⟨a,b,h,e⟩
      · exact .inl fun k=>by rcases aHp.1 k with k | k;exact hc k.symm;exact h k
      · exact .inr ⟨c :: a,b,fun k=>by rcases aHp.1 k with k | k;exact hc k.symm;exact h k,by rw[e];rfl⟩
theorem OS (u:Nat):47∉Lib.decDigits u:=fun h=>by have:=(JT u 47 h).1;revert this;decide
theorem zF (z:Int):47∉Lib.itoa z:=by
  by_cases hz:0≤z
  · rw[gQ hz];exact OS _
  · rw[jO (by omega)]
    intro h;rcases aHp.1 h with h | h
    · revert h;decide
    · exact OS _ h
def uW (q:Rat):List UInt8:=if q.den=1 then Lib.itoa q.num else Lib.itoa q.num++47 :: Lib.itoa q.den
theorem itoa_one:Lib.itoa 1=[49]:=by rw[gQ (by decide)];exact sC (by decide)
theorem IV {d:Int}:Lib.itoa d=[49]↔d=1:=⟨fun h=>EF (h.trans itoa_one.symm),fun h=>by rw[h];exact itoa_one⟩
noncomputable def bR (s:List UInt8):Option Rat × Int:=
  if (bA (Lib.cut s [47]).1).2≠0 then (none,(bA (Lib.cut s [47]).1).2)
  else if (Lib.cut s [47]).2.2=false then (some (mkRat (bA (Lib.cut s [47]).1).1 1),0)
  else if (bA (Lib.cut s [47]).2.1).2≠0 then (none,(bA (Lib.cut s [47]).2.1).2)
  else if 2≤(bA (Lib.cut s [47]).2.1).1∧Nat.gcd (bA (Lib.cut s [47]).1).1.natAbs (bA (Lib.cut s [47]).2.1).1.natAbs=1 then (some (mkRat (bA (Lib.cut s [47]).1).1 (bA (Lib.cut s [47]).2.1).1.natAbs),0)
  else (none,5)
theorem rO (s:List UInt8):(bA s=(0,5))∨(bA s=(0,6)∧∃ z,Lib.itoa z=s∧¬ (dig z.natAbs).length≤600)∨∃ z,bA s=(z,0)∧Lib.itoa z=s∧(dig z.natAbs).length≤600:=by
  rcases h:iA s with _ | z
  · exact .inl (kK h)
  · by_cases hl:(dig z.natAbs).length≤600
    · exact .inr (.inr ⟨z,kJ h hl,qH h,hl⟩)
    · exact .inr (.inl ⟨tT h hl,z,qH h,hl⟩)
theorem nL {z:Int} (h:(dig z.natAbs).length≤600):bA (Lib.itoa z)=(z,0):=kJ (xE z) h
theorem BW {s:List UInt8} (h:47∉s):bR s=if (bA s).2≠0 then (none,(bA s).2) else (some (mkRat (bA s).1 1),0):=by
  unfold bR;rw[FF h];simp
theorem LE {a b:List UInt8} (h:47∉a):bR (a++47 :: b)=if (bA a).2≠0 then (none,(bA a).2) else if (bA b).2≠0 then (none,(bA b).2)
    else if 2≤(bA b).1∧Nat.gcd (bA a).1.natAbs (bA b).1.natAbs=1 then (some (mkRat (bA a).1 (bA b).1.natAbs),0) else (none,5):=by
  unfold bR;rw[FE h];simp
theorem IL {q:Rat} (h:QL 600 600 q):bR (uW q)=(some q,0):=by
  unfold uW;by_cases hd:q.den=1
  · rw[aEv hd,BW (zF _),nL h.1]
    simp only[ne_eq,not_true,if_false]
    rw[show mkRat q.num 1=q by rw[← hd];exact Rat.mkRat_self q]
  · have hp:=q.den_pos
    rw[aEu hd,LE (zF _),nL h.1,nL (z:=(q.den:Int)) (by rw[aEr];exact h.2)];simp only[ne_eq,not_true,if_false,aEr]
    rw[aEv ⟨by omega,q.reduced⟩,Rat.mkRat_self]
end Go.Proofs.YtencnahjgbdeoaaGreatDoor
