/- Plain mathematics of layer 04: texts of fractions. -/
import Derived.Test.YtdigbofiebfkeaaGreatDoorQde
import Derived.Lib.IndexMore
import Derived.Lib.Strings
namespace Go.Proofs.YtdigbofiebfkeaaGreatDoor
open Go Go.RowKit Dig
theorem idx_none:∀ {s:List UInt8},47∉s→Lib.index s [47]=-1
  | [],_=>rfl
  | c :: l,h=>by
    have h1:c≠47:=fun e=>h (by rw[e];exact List.mem_cons_self ..)
    have h2:=idx_none (s:=l) fun k=>h (List.mem_cons_of_mem _ k)
    unfold Lib.index;rw[h2,if_neg (by simp[List.isPrefixOf];exact fun e=>h1 e.symm)]
    rfl
theorem idx_some:∀ {a b:List UInt8},47∉a→Lib.index (a++47 :: b) [47]=(a.length:Int)
  | [],b,_=>by
    show Lib.index (47 :: b) [47]=0
    unfold Lib.index;rw[if_pos (by simp[List.isPrefixOf])]
  | c :: l,b,h=>by
    have h1:c≠47:=fun e=>h (by rw[e];exact List.mem_cons_self ..)
    have h2:=idx_some (a:=l) (b:=b) fun k=>h (List.mem_cons_of_mem _ k)
    show Lib.index (c :: (l++47 :: b)) [47]=_
    unfold Lib.index;rw[h2,if_neg (by simp[List.isPrefixOf];exact fun e=>h1 e.symm)];have:((l.length:Int)==-1)=false:=by rw[beq_eq_false_iff_ne];omega
    simp[this]
theorem cut_none {s:List UInt8} (h:47∉s):Lib.cut s [47]=(s,[],false):=by
  unfold Lib.cut;rw[idx_none h,if_neg (by decide)]
theorem cut_some {a b:List UInt8} (h:47∉a):Lib.cut (a++47 :: b) [47]=(a,b,true):=by
  unfold Lib.cut;rw[idx_some h,if_pos (by omega)];simp
theorem first47:∀ s:List UInt8,47∉s∨∃ a b,47∉a∧s=a++47 :: b
  | []=>.inl (by simp)
  | c :: l=>by
    by_cases hc:c=47
    · exact .inr ⟨[],l,by simp,by rw[hc];rfl⟩
    · rcases first47 l with h | ⟨a,b,h,e⟩
      · exact .inl fun k=>by rcases List.mem_cons.1 k with k | k;exact hc k.symm;exact h k
      · exact .inr ⟨c :: a,b,fun k=>by rcases List.mem_cons.1 k with k | k;exact hc k.symm;exact h k,by rw[e];rfl⟩
theorem dd_no47 (u:Nat):47∉Lib.decDigits u:=fun h=>by have:=(dd_all u 47 h).1;revert this;decide
theorem itoa_no47 (z:Int):47∉Lib.itoa z:=by
  by_cases hz:0≤z
  · rw[itoa_pos hz];exact dd_no47 _
  · rw[itoa_min (by omega)]
    intro h;rcases List.mem_cons.1 h with h | h
    · revert h;decide
    · exact dd_no47 _ h
def textQ (q:Rat):List UInt8:=if q.den=1 then Lib.itoa q.num else Lib.itoa q.num++47 :: Lib.itoa q.den
theorem itoa_one:Lib.itoa 1=[49]:=by rw[itoa_pos (by decide)];exact dd_one (by decide)
theorem itoa_is_one {d:Int}:Lib.itoa d=[49]↔d=1:=⟨fun h=>itoa_inj (h.trans itoa_one.symm),fun h=>by rw[h];exact itoa_one⟩
noncomputable def parseQ (s:List UInt8):Option Rat × Int:=
  if (parseZ (Lib.cut s [47]).1).2≠0 then (none,(parseZ (Lib.cut s [47]).1).2)
  else if (Lib.cut s [47]).2.2=false then (some (mkRat (parseZ (Lib.cut s [47]).1).1 1),0)
  else if (parseZ (Lib.cut s [47]).2.1).2≠0 then (none,(parseZ (Lib.cut s [47]).2.1).2)
  else if 2≤(parseZ (Lib.cut s [47]).2.1).1∧Nat.gcd (parseZ (Lib.cut s [47]).1).1.natAbs (parseZ (Lib.cut s [47]).2.1).1.natAbs=1 then (some (mkRat (parseZ (Lib.cut s [47]).1).1 (parseZ (Lib.cut s [47]).2.1).1.natAbs),0)
  else (none,5)
theorem parseZ_cases (s:List UInt8):(parseZ s=(0,5))∨(parseZ s=(0,6)∧∃ z,Lib.itoa z=s∧¬ (dig z.natAbs).length≤600)∨∃ z,parseZ s=(z,0)∧Lib.itoa z=s∧(dig z.natAbs).length≤600:=by
  rcases h:canon s with _ | z
  · exact .inl (parseZ_none h)
  · by_cases hl:(dig z.natAbs).length≤600
    · exact .inr (.inr ⟨z,parseZ_some h hl,canon_some h,hl⟩)
    · exact .inr (.inl ⟨parseZ_long h hl,z,canon_some h,hl⟩)
theorem parseZ_itoa {z:Int} (h:(dig z.natAbs).length≤600):parseZ (Lib.itoa z)=(z,0):=parseZ_some (canon_itoa z) h
theorem parseQ_plain {s:List UInt8} (h:47∉s):parseQ s=if (parseZ s).2≠0 then (none,(parseZ s).2) else (some (mkRat (parseZ s).1 1),0):=by
  unfold parseQ;rw[cut_none h];simp
theorem parseQ_two {a b:List UInt8} (h:47∉a):parseQ (a++47 :: b)=if (parseZ a).2≠0 then (none,(parseZ a).2) else if (parseZ b).2≠0 then (none,(parseZ b).2)
    else if 2≤(parseZ b).1∧Nat.gcd (parseZ a).1.natAbs (parseZ b).1.natAbs=1 then (some (mkRat (parseZ a).1 (parseZ b).1.natAbs),0) else (none,5):=by
  unfold parseQ;rw[cut_some h];simp
theorem parse_textQ {q:Rat} (h:QL 600 600 q):parseQ (textQ q)=(some q,0):=by
  unfold textQ;by_cases hd:q.den=1
  · rw[if_pos hd,parseQ_plain (itoa_no47 _),parseZ_itoa h.1]
    simp only[ne_eq,not_true,if_false]
    rw[show mkRat q.num 1=q by rw[← hd];exact Rat.mkRat_self q]
  · have hp:=q.den_pos
    rw[if_neg hd,parseQ_two (itoa_no47 _),parseZ_itoa h.1,parseZ_itoa (z:=(q.den:Int)) (by rw[Int.natAbs_natCast];exact h.2)];simp only[ne_eq,not_true,if_false,Int.natAbs_natCast]
    rw[if_pos ⟨by omega,q.reduced⟩,Rat.mkRat_self]
end Go.Proofs.YtdigbofiebfkeaaGreatDoor
