/- Texts put together. -/
import Derived.Test.YtencnahjgbdeoaaGreatDoorLa1
namespace Go.Proofs.YtencnahjgbdeoaaGreatDoor
open Go Go.RowKit Dig
set_option linter.unusedSimpArgs false
variable {D Z a i j k n:Nat} {q:Rat} {t u:List (List Rat)}
theorem DD {r p:List Rat} {f:Rat} (hk:k<r.length):(pF r f p).getD k 0=r.getD k 0-f*p.getD k 0:=by
 rw[aG (by rw[vG];exact hk),aG hk];simp[pF]
theorem vS {r:List Rat} (hk:k<r.length):(AH r q).getD k 0=r.getD k 0 / q:=by
 rw[aG (by rw[vR];exact hk),aG hk];simp[AH]
theorem qG (hi:i<t.length):(clearQ t a j).getD i []=if i=a then iD t a j else pF (t.getD i []) (bP t i j) (iD t a j):=by
 rw[aG (by rw[dH];exact hi)];simp only[clearQ,aGy,bP,aG hi]
theorem fI {m c:Nat} (hw:Wide t m) (ha:a<t.length) (hi:i<t.length) (hc:c<m) :
  bP (clearQ t a j) i c=if i=a then bP t a c / bP t a j else bP t i c-bP t i j*(bP t a c / bP t a j):=by
 unfold bP;rw[qG hi];by_cases e:i=a
 ·rw[aEv e,aEv e,iD,vS (by rw[hw.getD ha];exact hc)];rfl
 ·rw[aEu e,aEu e,DD (by rw[hw.getD hi];exact hc),iD,vS (by rw[hw.getD ha];exact hc)];rfl
theorem sI {x:Nat} (ha:a<t.length) (hi:i<t.length):(dM t a i).getD x []=t.getD (if x=i then a else if x=a then i else x) []:=by
 unfold dM;simp only[aEi,List.getElem?_set,aEz]
 by_cases e1:i=x
 ·subst e1;simp[hi]
 ·by_cases e2:a=x
  ·subst e2;simp[e1,aMj e1,ha]
  ·simp[e1,e2,aMj e1,aMj e2]
theorem jB {x c:Nat} (ha:a<t.length) (hi:i<t.length):bP (dM t a i) x c=bP t (if x=i then a else if x=a then i else x) c:=by
 unfold bP;rw[sI ha hi]
section
variable {n:Nat} {a:List (List Rat)} {b x:List Rat}
end
def bZ (f:Nat→Rat):Nat→Rat
 | 0=>0
 | k+1=>bZ f k+f k
section
variable (a11 a12 a13 a14 a21 a22 a23 a24 a31 a32 a33 a34 a41 a42 a43 a44 x1 x2 x3 x4:Rat)
end
def FR (D Z:Nat) (q:Rat):Prop:=∃ z:Int,q*(D:Rat)=(z:Rat)∧z.natAbs≤Z
section
variable {D D' Z Z':Nat} {q r:Rat}
theorem FR.mono (h:FR D Z q) (hz:Z≤Z'):FR D Z' q:=let ⟨z,h1,h2⟩:=h;⟨z,h1,aEg h2 hz⟩
theorem FR.zero (D:Nat):FR D 0 0:=⟨0,by rw[aJm];rfl,aEa _⟩
theorem FR.add (h:FR D Z q) (k:FR D Z' r):FR D (Z+Z') (q+r):=by
 obtain⟨z,h1,h2⟩:=h;obtain⟨y,k1,k2⟩:=k;exact⟨z+y,by rw[Rat.add_mul,h1,k1,Rat.intCast_add],by omega⟩
theorem FR.neg (h:FR D Z q):FR D Z (-q):=by
 obtain⟨z,h1,h2⟩:=h;exact⟨-z,by rw[Rat.neg_mul,h1,Rat.intCast_neg],by omega⟩
theorem FR.sub (h:FR D Z q) (k:FR D Z' r):FR D (Z+Z') (q-r):=by rw[aHe];exact h.add k.neg
theorem FR.mul (h:FR D Z q) (k:FR D' Z' r):FR (D*D') (Z*Z') (q*r):=by
 obtain⟨z,h1,h2⟩:=h;obtain⟨y,k1,k2⟩:=k;refine⟨z*y,?_,by rw[aGi];exact aGs h2 k2⟩;rw[Rat.intCast_mul,← h1,← k1,Rat.natCast_mul];grind
theorem FR.quot {x a b:Rat} (h:a*x=b) (h0:a≠0) (hD:0<D) (ha:FR D Z a) (hb:FR D Z b) (hz:Z<bp k):QL k k x:=by
 obtain⟨z,h1,h2⟩:=ha;obtain⟨y,k1,k2⟩:=hb;have hDq:(D:Rat)≠0:=by
  intro e;have:D=0:=by exact_mod_cast e
  omega
 have hz0:z≠0:=by
  intro e;rw[e] at h1;have h3:a*(D:Rat)=0:=h1;rcases Rat.mul_eq_zero.1 h3 with h4 | h4
  ·exact h0 h4
  ·exact hDq h4
 have hx:(z:Rat)*x=(y:Rat):=by rw[← h1,← k1,← h];grind
 have hzq:(z:Rat)≠0:=by intro e;exact hz0 (by exact_mod_cast e)
 have e:x=Rat.divInt y z:=by
  rw[Rat.divInt_eq_div];rw[← hx];rw[Rat.mul_comm,aKk,Rat.mul_assoc,Rat.mul_inv_cancel _ hzq,Rat.mul_one]
 rw[e];have hl:∀ n:Nat,n≤Z→(dig n).length≤k:=fun n hn=>aU.2 (aKz hn hz)
 rcases Int.lt_or_le 0 z with hp | hp
 ·rw[show z=((z.natAbs:Nat):Int) by omega,aMv];exact QL.mk' (hl _ k2) (hl _ h2) (by omega)
 ·rw[show Rat.divInt y z=Rat.divInt (-y) ((z.natAbs:Nat):Int) by rw[show((z.natAbs:Nat):Int)=-z by omega,Rat.neg_divInt_neg]];rw[aMv];exact QL.mk' (by rw[aKu];exact hl _ k2) (hl _ h2) (by omega)
end
structure Twin (n:Nat) (t u:List (List Rat)):Prop where
 len:t.length=u.length
 at_:∀ i c,i<t.length→c<n→bP t i c=bP u i c
 wt:Wide t (n+1)
 wu:Wide u (n+1)
theorem Twin.piv (h:Twin n t u) (hj:j<n) (ha:a≤t.length):pivQ t j a=pivQ u j a:=by
 have h1:=gD u j (u.length-a) a;refine BG (i:=pivQ u j a) lV (by have:=BF (t:=u) (j:=j) (a:=a) (by rw[← h.len];exact ha);rw[h.len];exact this) (fun k hk hk'=>?_) (fun hlt=>?_)
 ·have h2:pivQ u j a≤u.length:=BF (by rw[← h.len];exact ha);rw[h.at_ k j (by rw[h.len];omega) hj];exact h1.2.2.1 k hk hk'
 ·rw[h.at_ _ j hlt hj];exact uE (by rw[← h.len];exact hlt)
theorem Twin.step {p:List Nat} (h:Twin n t u) (hj:j<n) (hp:p.length≤t.length):Twin n (dX t p j).1 (dX u p j).1∧(dX t p j).2=(dX u p j).2:=by
 unfold dX;rw[h.piv hj hp,h.len]
 split
 ·rename_i hlt
  have h1:p.length≤pivQ u j p.length:=lV;generalize pivQ u j p.length=i0 at hlt h1 ⊢;have hlt':i0<t.length:=by rw[h.len];exact hlt
  have l1:p.length<t.length:=by omega
  have l2:p.length<u.length:=by rw[← h.len];exact l1
  have hs:∀ i c,i<t.length→c<n→bP (dM t p.length i0) i c=bP (dM u p.length i0) i c:=fun i c hi hc=>by
   rw[jB l1 hlt',jB l2 hlt]
   split
   ·exact h.at_ _ c l1 hc
   ·split
    ·exact h.at_ _ c hlt' hc
    ·exact h.at_ _ c hi hc
  have w1:=h.wt.swap l1 hlt';have w2:=h.wu.swap l2 hlt;refine⟨⟨by rw[dH,dH,cO,cO];exact h.len,fun i c hi hc=>?_,w1.clear (by rw[cO];exact l1),w2.clear (by rw[cO];exact l2)⟩,rfl⟩;rw[dH,cO] at hi;have hi':i<u.length:=by rw[← h.len];exact hi
  rw[fI w1 (by rw[cO];exact l1) (by rw[cO];exact hi) (by omega),fI w2 (by rw[cO];exact l2) (by rw[cO];exact hi') (by omega)];rw[hs i c hi hc,hs i j hi hj,hs p.length c l1 hc,hs p.length j l1 hj]
 ·exact⟨h,rfl⟩
theorem Twin.elim (h:Twin n t u):∀ j,j≤n→Twin n (elimQ t j).1 (elimQ u j).1∧(elimQ t j).2=(elimQ u j).2
 | 0,_=>⟨h,rfl⟩
 | j+1,hj=>by
  obtain⟨h1,h2⟩:=Twin.elim h j (by omega);have h3:=h1.step (p:=(elimQ t j).2) (j:=j) (by omega) (by have:=(jG t j).1;rw[eL];exact this);unfold elimQ;rw[← h2];exact h3
theorem FR.den {a:Rat} (h0:a≠0) (hD:0<D) (ha:FR D Z a):∃ z,0<z∧z≤Z∧∀ {x b:Rat},a*x=b→FR D Z b→FR z Z x:=by
 obtain⟨z,h1,h2⟩:=ha;have hDq:(D:Rat)≠0:=by
  intro e;have:D=0:=by exact_mod_cast e
  omega
 have hz0:z≠0:=by
  intro e;rw[e] at h1;have h3:a*(D:Rat)=0:=h1;rcases Rat.mul_eq_zero.1 h3 with h4 | h4
  ·exact h0 h4
  ·exact hDq h4
 refine⟨z.natAbs,by omega,h2,fun {x b} h hb=>?_⟩;obtain⟨y,k1,k2⟩:=hb;have hx:(z:Rat)*x=(y:Rat):=by rw[← h1,← k1,← h];grind
 rcases Int.lt_or_le 0 z with hp | hp
 ·refine⟨y,?_,k2⟩;rw[show((z.natAbs:Nat):Rat)=(z:Rat) by rw[← aNh];congr 1;omega,← hx,Rat.mul_comm]
 ·refine⟨-y,?_,by omega⟩;rw[show((z.natAbs:Nat):Rat)=((-z:Int):Rat) by rw[← aNh];congr 1;omega,Rat.intCast_neg,Rat.intCast_neg,← hx]
  grind
section
variable {n:Nat} {a:List (List Rat)} {b x:List Rat}
theorem FR.ql (hD:0<D) (h:FR D Z q) (hz:Z<bp k) (hd:D<bp k):QL k k q:=by
 have h1:FR 1 D (D:Rat):=⟨(D:Int),by rw[show((1:Nat):Rat)=1 from rfl,Rat.mul_one];rfl,aGo (aEr D)⟩;obtain⟨z,e,hz'⟩:=h;have hne:(D:Rat)≠0:=by
  intro e';have:D=0:=by exact_mod_cast e'
  omega
 refine FR.quot (D:=1) (Z:=max D Z) (a:=(D:Rat)) (b:=(z:Rat)) (by rw[Rat.mul_comm];exact e) hne (by decide) (h1.mono (Nat.le_max_left _ _)) ⟨z,by rw[show((1:Nat):Rat)=1 from rfl,Rat.mul_one],by omega⟩ (by omega)
end
section
variable {n:Nat} {a:List (List Rat)} {b x:List Rat}
end
section
variable {n:Nat} {a:List (List Rat)} {b d x y:List Rat} {l:Rat}
theorem lM {m:List (List Rat)}:(eP m l d).length=m.length:=by simp[eP]
theorem qF {m:List (List Rat)} (h:Wide m n):Wide (eP m l d) n:=by
 intro r hr;unfold eP at hr;obtain⟨i,hi,rfl⟩:=aLg.1 hr;rw[aEz];exact h _ (aEc hi)
end
def CR (p:List Nat) (n:Nat):List Nat:=(List.range n).filter fun j=>!decide (j∈p)
section
variable {n:Nat} {t:List (List Rat)} {p:List Nat}
theorem PR:(gX t p n).length=(CR p n).length:=by simp[gX,CR]
theorem IW:(CR p n).Nodup:=List.nodup_range.filter _
end
section
variable {n:Nat} {t:List (List Rat)} {p:List Nat} {a:List (List Rat)} {b s:List Rat}
theorem pV:(eE t p n).length=n:=by simp[eE]
theorem KM {w:List (List Rat)}:(gH a w).length=a.length:=by simp[gH]
theorem GT {w:List (List Rat)}:Wide (gH a w) w.length:=by
 intro r hr;obtain⟨x,-,rfl⟩:=aFc.1 hr;simp
end
theorem FR.sum {f:Nat→Rat}:∀ {n:Nat},(∀ k,k<n→FR D Z (f k))→FR D (n*Z) (bZ f n)
 | 0,_=>by rw[aLf];exact FR.zero D
 | n+1,h=>by rw[bZ,aGl,aIn];exact(FR.sum fun k hk=>h k (by omega)).add (h n (by omega))
section
variable {m:Nat} {t:List (List Rat)} {v:List Rat}
end
section
variable {t:List (List Rat)} {p:List Nat}
end
section
variable {t u:List (List Rat)} {p:List Nat} {n m D Z:Nat}
end
theorem FR.up {D':Nat} (h:FR D Z q):FR (D*D') (Z*D') q:=by
 obtain⟨z,h1,h2⟩:=h;refine⟨z*(D':Int),?_,by rw[aGi,aEr];exact aEs _ h2⟩;rw[Rat.intCast_mul,← h1,Rat.natCast_mul,aNh,Rat.mul_assoc]
section
variable {n D Z D' Z':Nat} {a:List (List Rat)} {b x:List Rat}
end
end Go.Proofs.YtencnahjgbdeoaaGreatDoor
