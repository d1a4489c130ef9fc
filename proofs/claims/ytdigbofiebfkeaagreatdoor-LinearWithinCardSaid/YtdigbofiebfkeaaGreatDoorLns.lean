/- Texts put together: Plain: what elimination leaves of the solutions; the reduced form; the only solution. Plain: what the elimination answers is the only solution; if it answers none there is not just one. Plain: least squares: what solves the normal equations has the least sum. Plain: determinants of at most four rows: Cramer's rule, and the sizes of solutions by it. Plain: the sizes of the only solution of at most four equations. Plain: the sizes of the only solution of at most four equations with short elements. Plain: the normal equations, with a damping or without, say that the sum of squares is least; rows in another order. Plain: the damped sum is least; equations in another order have the same solution. Plain: all solutions of equations: a point and directions; the least sum of squares among them. Plain: what Bound answers solves its equations, and no other solution has a smaller sum of squares. Plain: the elements of the reduced form have one denominator: Cramer's rule on the Gram matrix of the columns with pivots. Plain: how long sums of squares and sums of products of short numbers are. -/
import Derived.Test.YtdigbofiebfkeaaGreatDoorLa1
namespace Go.Proofs.YtdigbofiebfkeaaGreatDoor
open Go Go.RowKit Dig
theorem subR_get {r p:List Rat} {f:Rat} {k:Nat} (hk:k<r.length):(subR r f p).getD k 0=r.getD k 0-f*p.getD k 0:=by
 rw[getD_is (by rw[subR_len];exact hk),getD_is hk];simp[subR]
theorem divR_get {r:List Rat} {q:Rat} {k:Nat} (hk:k<r.length):(divR r q).getD k 0=r.getD k 0 / q:=by
 rw[getD_is (by rw[divR_len];exact hk),getD_is hk];simp[divR]
theorem clearQ_row {t:List (List Rat)} {a j i:Nat} (hi:i<t.length):(clearQ t a j).getD i []=if i=a then clearR t a j else subR (t.getD i []) (atQ t i j) (clearR t a j):=by
 rw[getD_is (by rw[clearQ_len];exact hi)];simp only[clearQ,List.getElem_mapIdx,atQ,getD_is hi]
theorem clearQ_at {t:List (List Rat)} {m a j i c:Nat} (hw:Wide t m) (ha:a<t.length) (hi:i<t.length) (hc:c<m) :
  atQ (clearQ t a j) i c=if i=a then atQ t a c / atQ t a j else atQ t i c-atQ t i j*(atQ t a c / atQ t a j):=by
 unfold atQ;rw[clearQ_row hi];by_cases e:i=a
 ·rw[if_pos e,if_pos e,clearR,divR_get (by rw[hw.getD ha];exact hc)];rfl
 ·rw[if_neg e,if_neg e,subR_get (by rw[hw.getD hi];exact hc),clearR,divR_get (by rw[hw.getD ha];exact hc)];rfl
theorem swapQ_row {t:List (List Rat)} {a i x:Nat} (ha:a<t.length) (hi:i<t.length):(swapQ t a i).getD x []=t.getD (if x=i then a else if x=a then i else x) []:=by
 unfold swapQ;simp only[List.getD_eq_getElem?_getD,List.getElem?_set,List.length_set]
 by_cases e1:i=x
 ·subst e1;simp[hi]
 ·by_cases e2:a=x
  ·subst e2;simp[e1,Ne.symm e1,ha]
  ·simp[e1,e2,Ne.symm e1,Ne.symm e2]
theorem swapQ_atx {t:List (List Rat)} {a i x c:Nat} (ha:a<t.length) (hi:i<t.length):atQ (swapQ t a i) x c=atQ t (if x=i then a else if x=a then i else x) c:=by
 unfold atQ;rw[swapQ_row ha hi]
section
variable {n:Nat} {a:List (List Rat)} {b x:List Rat}
end
def sumN (f:Nat→Rat):Nat→Rat
 | 0=>0
 | k+1=>sumN f k+f k
section
variable (a11 a12 a13 a14 a21 a22 a23 a24 a31 a32 a33 a34 a41 a42 a43 a44 x1 x2 x3 x4:Rat)
end
def FR (D Z:Nat) (q:Rat):Prop:=∃ z:Int,q*(D:Rat)=(z:Rat)∧z.natAbs≤Z
section
variable {D D' Z Z':Nat} {q r:Rat}
theorem FR.mono (h:FR D Z q) (hz:Z≤Z'):FR D Z' q:=let ⟨z,h1,h2⟩:=h;⟨z,h1,Nat.le_trans h2 hz⟩
theorem FR.zero (D:Nat):FR D 0 0:=⟨0,by rw[Rat.zero_mul];rfl,Nat.le_refl _⟩
theorem FR.add (h:FR D Z q) (k:FR D Z' r):FR D (Z+Z') (q+r):=by
 obtain⟨z,h1,h2⟩:=h;obtain⟨y,k1,k2⟩:=k;exact⟨z+y,by rw[Rat.add_mul,h1,k1,Rat.intCast_add],by omega⟩
theorem FR.neg (h:FR D Z q):FR D Z (-q):=by
 obtain⟨z,h1,h2⟩:=h;exact⟨-z,by rw[Rat.neg_mul,h1,Rat.intCast_neg],by omega⟩
theorem FR.sub (h:FR D Z q) (k:FR D Z' r):FR D (Z+Z') (q-r):=by rw[Rat.sub_eq_add_neg];exact h.add k.neg
theorem FR.mul (h:FR D Z q) (k:FR D' Z' r):FR (D*D') (Z*Z') (q*r):=by
 obtain⟨z,h1,h2⟩:=h;obtain⟨y,k1,k2⟩:=k;refine⟨z*y,?_,by rw[Int.natAbs_mul];exact Nat.mul_le_mul h2 k2⟩;rw[Rat.intCast_mul,← h1,← k1,Rat.natCast_mul];grind
theorem FR.quot {x a b:Rat} {k:Nat} (h:a*x=b) (h0:a≠0) (hD:0<D) (ha:FR D Z a) (hb:FR D Z b) (hz:Z<bp k):QL k k x:=by
 obtain⟨z,h1,h2⟩:=ha;obtain⟨y,k1,k2⟩:=hb;have hDq:(D:Rat)≠0:=by
  intro e;have:D=0:=by exact_mod_cast e
  omega
 have hz0:z≠0:=by
  intro e;rw[e] at h1;have h3:a*(D:Rat)=0:=h1;rcases Rat.mul_eq_zero.1 h3 with h4 | h4
  ·exact h0 h4
  ·exact hDq h4
 have hx:(z:Rat)*x=(y:Rat):=by rw[← h1,← k1,← h];grind
 have hzq:(z:Rat)≠0:=by intro e;exact hz0 (by exact_mod_cast e)
 have e:x=Rat.divInt y z:=by
  rw[Rat.divInt_eq_div];rw[← hx];rw[Rat.mul_comm,Rat.div_def,Rat.mul_assoc,Rat.mul_inv_cancel _ hzq,Rat.mul_one]
 rw[e];have hl:∀ n:Nat,n≤Z→(dig n).length≤k:=fun n hn=>dig_len_le.2 (Nat.lt_of_le_of_lt hn hz)
 rcases Int.lt_or_le 0 z with hp | hp
 ·rw[show z=((z.natAbs:Nat):Int) by omega,Rat.divInt_ofNat];exact QL.mk' (hl _ k2) (hl _ h2) (by omega)
 ·rw[show Rat.divInt y z=Rat.divInt (-y) ((z.natAbs:Nat):Int) by rw[show((z.natAbs:Nat):Int)=-z by omega,Rat.neg_divInt_neg]];rw[Rat.divInt_ofNat];exact QL.mk' (by rw[Int.natAbs_neg];exact hl _ k2) (hl _ h2) (by omega)
end
structure Twin (n:Nat) (t u:List (List Rat)):Prop where
 len:t.length=u.length
 at_:∀ i c,i<t.length→c<n→atQ t i c=atQ u i c
 wt:Wide t (n+1)
 wu:Wide u (n+1)
theorem Twin.piv {n j a:Nat} {t u:List (List Rat)} (h:Twin n t u) (hj:j<n) (ha:a≤t.length):pivQ t j a=pivQ u j a:=by
 have h1:=pivF_spec u j (u.length-a) a;refine pivQ_eq (i:=pivQ u j a) pivQ_ge (by have:=pivQ_le (t:=u) (j:=j) (a:=a) (by rw[← h.len];exact ha);rw[h.len];exact this) (fun k hk hk'=>?_) (fun hlt=>?_)
 ·have h2:pivQ u j a≤u.length:=pivQ_le (by rw[← h.len];exact ha);rw[h.at_ k j (by rw[h.len];omega) hj];exact h1.2.2.1 k hk hk'
 ·rw[h.at_ _ j hlt hj];exact pivQ_ne (by rw[← h.len];exact hlt)
theorem Twin.step {n j:Nat} {t u:List (List Rat)} {p:List Nat} (h:Twin n t u) (hj:j<n) (hp:p.length≤t.length):Twin n (stepQ t p j).1 (stepQ u p j).1∧(stepQ t p j).2=(stepQ u p j).2:=by
 unfold stepQ;rw[h.piv hj hp,h.len]
 split
 ·rename_i hlt
  have h1:p.length≤pivQ u j p.length:=pivQ_ge;generalize pivQ u j p.length=i0 at hlt h1 ⊢;have hlt':i0<t.length:=by rw[h.len];exact hlt
  have l1:p.length<t.length:=by omega
  have l2:p.length<u.length:=by rw[← h.len];exact l1
  have hs:∀ i c,i<t.length→c<n→atQ (swapQ t p.length i0) i c=atQ (swapQ u p.length i0) i c:=fun i c hi hc=>by
   rw[swapQ_atx l1 hlt',swapQ_atx l2 hlt]
   split
   ·exact h.at_ _ c l1 hc
   ·split
    ·exact h.at_ _ c hlt' hc
    ·exact h.at_ _ c hi hc
  have w1:=h.wt.swap l1 hlt';have w2:=h.wu.swap l2 hlt;refine⟨⟨by rw[clearQ_len,clearQ_len,swapQ_len,swapQ_len];exact h.len,fun i c hi hc=>?_,w1.clear (by rw[swapQ_len];exact l1),w2.clear (by rw[swapQ_len];exact l2)⟩,rfl⟩;rw[clearQ_len,swapQ_len] at hi;have hi':i<u.length:=by rw[← h.len];exact hi
  rw[clearQ_at w1 (by rw[swapQ_len];exact l1) (by rw[swapQ_len];exact hi) (by omega),clearQ_at w2 (by rw[swapQ_len];exact l2) (by rw[swapQ_len];exact hi') (by omega)];rw[hs i c hi hc,hs i j hi hj,hs p.length c l1 hc,hs p.length j l1 hj]
 ·exact⟨h,rfl⟩
theorem Twin.elim {n:Nat} {t u:List (List Rat)} (h:Twin n t u):∀ j,j≤n→Twin n (elimQ t j).1 (elimQ u j).1∧(elimQ t j).2=(elimQ u j).2
 | 0,_=>⟨h,rfl⟩
 | j+1,hj=>by
  obtain⟨h1,h2⟩:=Twin.elim h j (by omega);have h3:=h1.step (p:=(elimQ t j).2) (j:=j) (by omega) (by have:=(elimQ_piv t j).1;rw[elimQ_len];exact this);unfold elimQ;rw[← h2];exact h3
theorem FR.den {D Z:Nat} {a:Rat} (h0:a≠0) (hD:0<D) (ha:FR D Z a):∃ z,0<z∧z≤Z∧∀ {x b:Rat},a*x=b→FR D Z b→FR z Z x:=by
 obtain⟨z,h1,h2⟩:=ha;have hDq:(D:Rat)≠0:=by
  intro e;have:D=0:=by exact_mod_cast e
  omega
 have hz0:z≠0:=by
  intro e;rw[e] at h1;have h3:a*(D:Rat)=0:=h1;rcases Rat.mul_eq_zero.1 h3 with h4 | h4
  ·exact h0 h4
  ·exact hDq h4
 refine⟨z.natAbs,by omega,h2,fun {x b} h hb=>?_⟩;obtain⟨y,k1,k2⟩:=hb;have hx:(z:Rat)*x=(y:Rat):=by rw[← h1,← k1,← h];grind
 rcases Int.lt_or_le 0 z with hp | hp
 ·refine⟨y,?_,k2⟩;rw[show((z.natAbs:Nat):Rat)=(z:Rat) by rw[← Rat.intCast_natCast];congr 1;omega,← hx,Rat.mul_comm]
 ·refine⟨-y,?_,by omega⟩;rw[show((z.natAbs:Nat):Rat)=((-z:Int):Rat) by rw[← Rat.intCast_natCast];congr 1;omega,Rat.intCast_neg,Rat.intCast_neg,← hx]
  grind
section
variable {n:Nat} {a:List (List Rat)} {b x:List Rat}
theorem FR.ql {D Z k:Nat} {q:Rat} (hD:0<D) (h:FR D Z q) (hz:Z<bp k) (hd:D<bp k):QL k k q:=by
 have h1:FR 1 D (D:Rat):=⟨(D:Int),by rw[show((1:Nat):Rat)=1 from rfl,Rat.mul_one];rfl,Nat.le_of_eq (Int.natAbs_natCast D)⟩;obtain⟨z,e,hz'⟩:=h;have hne:(D:Rat)≠0:=by
  intro e';have:D=0:=by exact_mod_cast e'
  omega
 refine FR.quot (D:=1) (Z:=max D Z) (a:=(D:Rat)) (b:=(z:Rat)) (by rw[Rat.mul_comm];exact e) hne (by decide) (h1.mono (Nat.le_max_left _ _)) ⟨z,by rw[show((1:Nat):Rat)=1 from rfl,Rat.mul_one],by omega⟩ (by omega)
end
section
variable {n:Nat} {a:List (List Rat)} {b x:List Rat}
end
section
variable {n:Nat} {a:List (List Rat)} {b d x y:List Rat} {l:Rat}
theorem dampQ_len {m:List (List Rat)}:(dampQ m l d).length=m.length:=by simp[dampQ]
theorem dampQ_wide {m:List (List Rat)} (h:Wide m n):Wide (dampQ m l d) n:=by
 intro r hr;unfold dampQ at hr;obtain⟨i,hi,rfl⟩:=List.mem_mapIdx.1 hr;rw[List.length_set];exact h _ (List.getElem_mem hi)
end
def freeQ (p:List Nat) (n:Nat):List Nat:=(List.range n).filter fun j=>!decide (j∈p)
section
variable {n:Nat} {t:List (List Rat)} {p:List Nat}
theorem waysQ_len:(waysQ t p n).length=(freeQ p n).length:=by simp[waysQ,freeQ]
theorem freeQ_nodup:(freeQ p n).Nodup:=List.nodup_range.filter _
end
section
variable {n:Nat} {t:List (List Rat)} {p:List Nat} {a:List (List Rat)} {b s:List Rat}
theorem pointQ_len:(pointQ t p n).length=n:=by simp[pointQ]
theorem stepsQ_len {w:List (List Rat)}:(stepsQ a w).length=a.length:=by simp[stepsQ]
theorem stepsQ_wide {w:List (List Rat)}:Wide (stepsQ a w) w.length:=by
 intro r hr;obtain⟨x,-,rfl⟩:=List.mem_map.1 hr;simp
end
theorem FR.sum {D Z:Nat} {f:Nat→Rat}:∀ {n:Nat},(∀ k,k<n→FR D Z (f k))→FR D (n*Z) (sumN f n)
 | 0,_=>by rw[Nat.zero_mul];exact FR.zero D
 | n+1,h=>by rw[sumN,Nat.add_mul,Nat.one_mul];exact(FR.sum fun k hk=>h k (by omega)).add (h n (by omega))
section
variable {m:Nat} {t:List (List Rat)} {v:List Rat}
end
section
variable {t:List (List Rat)} {p:List Nat}
end
section
variable {t u:List (List Rat)} {p:List Nat} {n m D Z:Nat}
end
theorem FR.up {D Z D':Nat} {q:Rat} (h:FR D Z q):FR (D*D') (Z*D') q:=by
 obtain⟨z,h1,h2⟩:=h;refine⟨z*(D':Int),?_,by rw[Int.natAbs_mul,Int.natAbs_natCast];exact Nat.mul_le_mul_right _ h2⟩;rw[Rat.intCast_mul,← h1,Rat.natCast_mul,Rat.intCast_natCast,Rat.mul_assoc]
section
variable {n D Z D' Z':Nat} {a:List (List Rat)} {b x:List Rat}
end
end Go.Proofs.YtdigbofiebfkeaaGreatDoor
