/- Texts put together: Plain: what elimination leaves of the solutions; the reduced form; the only solution. Plain: what the elimination answers is the only solution; if it answers none there is not just one. Plain: least squares: what solves the normal equations has the least sum. Plain: determinants of at most four rows: Cramer's rule, and the sizes of solutions by it. Plain: the sizes of the only solution of at most four equations. Plain: the sizes of the only solution of at most four equations with short elements. Plain: the normal equations, with a damping or without, say that the sum of squares is least; rows in another order. Plain: the damped sum is least; equations in another order have the same solution. Plain: all solutions of equations: a point and directions; the least sum of squares among them. Plain: what Bound answers solves its equations, and no other solution has a smaller sum of squares. Plain: the elements of the reduced form have one denominator: Cramer's rule on the Gram matrix of the columns with pivots. Plain: how long sums of squares and sums of products of short numbers are. -/
import Derived.Test.YtdigbofiebfkeaaGreatDoorLa1
import Derived.Test.YtdigbofiebfkeaaGreatDoorLns
namespace Go.Proofs.YtdigbofiebfkeaaGreatDoor
open Go Go.RowKit Dig
theorem dotTo_congr {r r' x x':List Rat}:∀ {n:Nat},(∀ k,k<n→r.getD k 0*x.getD k 0=r'.getD k 0*x'.getD k 0)→dotTo r x n=dotTo r' x' n
 | 0,_=>rfl
 | n+1,h=>by rw[dotTo,dotTo,dotTo_congr (n:=n) fun k hk=>h k (by omega),h n (by omega)]
theorem dotTo_sub {r r' p x:List Rat} {f:Rat}:∀ {n:Nat},(∀ k,k<n→r'.getD k 0=r.getD k 0-f*p.getD k 0)→dotTo r' x n=dotTo r x n-f*dotTo p x n
 | 0,_=>by simp[dotTo,Rat.mul_zero,Rat.sub_eq_add_neg,Rat.add_zero]
 | n+1,h=>by rw[dotTo,dotTo,dotTo,dotTo_sub (n:=n) fun k hk=>h k (by omega),h n (by omega)];grind
theorem dotTo_div {r p x:List Rat} {q:Rat}:∀ {n:Nat},(∀ k,k<n→p.getD k 0=r.getD k 0 / q)→dotTo p x n=dotTo r x n / q
 | 0,_=>by simp[dotTo,Rat.div_def,Rat.zero_mul]
 | n+1,h=>by rw[dotTo,dotTo,dotTo_div (n:=n) fun k hk=>h k (by omega),h n (by omega)];simp only[Rat.div_def];grind
def Sol (n:Nat) (t:List (List Rat)) (x:List Rat):Prop:=∀ i,i<t.length→dotTo (t.getD i []) x n=atQ t i n
theorem sol_swap {n:Nat} {t:List (List Rat)} {x:List Rat} {a i:Nat} (ha:a<t.length) (hi:i<t.length):Sol n (swapQ t a i) x↔Sol n t x:=by
 have key:∀ y,y<t.length→(if y=i then a else if y=a then i else y)<t.length:=fun y hy=>by split;exact ha;split;exact hi;exact hy
 constructor
 ·intro h y hy;have h1:=h (if y=i then a else if y=a then i else y) (by rw[swapQ_len];exact key y hy);rw[swapQ_row ha hi,swapQ_atx ha hi] at h1;have e:(if (if y=i then a else if y=a then i else y)=i then a else if (if y=i then a else if y=a then i else y)=a then i else (if y=i then a else if y=a then i else y))=y:=by
   by_cases e1:y=i
   ·subst e1;by_cases e2:a=y <;> simp[e2]
   ·by_cases e2:y=a
    ·subst e2;simp[e1]
    ·simp[e1,e2]
  rwa [e] at h1
 ·intro h y hy;rw[swapQ_len] at hy;rw[swapQ_row ha hi,swapQ_atx ha hi];exact h _ (key y hy)
theorem sol_clear {n:Nat} {t:List (List Rat)} {x:List Rat} {a j:Nat} (hw:Wide t (n+1)) (ha:a<t.length) (h0:atQ t a j≠0):Sol n (clearQ t a j) x↔Sol n t x:=by
 have hp:dotTo (clearR t a j) x n=dotTo (t.getD a []) x n / atQ t a j:=dotTo_div fun k hk=>divR_get (by rw[hw.getD ha];omega)
 have hr:∀ i,i<t.length→i≠a→dotTo ((clearQ t a j).getD i []) x n=dotTo (t.getD i []) x n-atQ t i j*(dotTo (t.getD a []) x n / atQ t a j):=fun i hi e=>by
  rw[clearQ_row hi,if_neg e,← hp];exact dotTo_sub fun k hk=>subR_get (by rw[hw.getD hi];omega)
 have ha':dotTo ((clearQ t a j).getD a []) x n=dotTo (t.getD a []) x n / atQ t a j:=by rw[clearQ_row ha,if_pos rfl,hp]
 constructor
 ·intro h;have e1:dotTo (t.getD a []) x n=atQ t a n:=by
   have h1:=h a (by rw[clearQ_len];exact ha);rw[ha',clearQ_at hw ha ha (by omega),if_pos rfl] at h1;have h2:dotTo (t.getD a []) x n / atQ t a j*atQ t a j=atQ t a n / atQ t a j*atQ t a j:=by rw[h1]
   rwa [Rat.div_mul_cancel h0,Rat.div_mul_cancel h0] at h2
  intro i hi;by_cases e:i=a
  ·subst e;exact e1
  ·have h1:=h i (by rw[clearQ_len];exact hi);rw[hr i hi e,clearQ_at hw ha hi (by omega),if_neg e,e1] at h1
   grind
 ·intro h i hi;rw[clearQ_len] at hi;by_cases e:i=a
  ·subst e;rw[ha',clearQ_at hw ha ha (by omega),if_pos rfl,h i hi]
  ·rw[hr i hi e,clearQ_at hw ha hi (by omega),if_neg e,h i hi,h a ha]
theorem sol_step {n:Nat} {t:List (List Rat)} {x:List Rat} {p:List Nat} {j:Nat} (hw:Wide t (n+1)):Sol n (stepQ t p j).1 x↔Sol n t x:=by
 unfold stepQ
 split
 ·rename_i hp
  have h1:p.length≤pivQ t j p.length:=pivQ_ge;have h2:p.length<t.length:=by omega
  exact(sol_clear (hw.swap h2 hp) (by rw[swapQ_len];exact h2) (by rw[swapQ_at h2 hp];exact pivQ_ne hp)).trans (sol_swap h2 hp)
 ·exact Iff.rfl
theorem sol_elim {n:Nat} {t:List (List Rat)} {x:List Rat} (hw:Wide t (n+1)):∀ j,Sol n (elimQ t j).1 x↔Sol n t x
 | 0=>Iff.rfl
 | j+1=>(sol_step (Wide.elim hw j)).trans (sol_elim hw j)
structure Red (t:List (List Rat)) (p:List Nat) (j:Nat):Prop where
 one:∀ k (hk:k<p.length) i,i<t.length→atQ t i p[k]=if i=k then 1 else 0
 zero:∀ i,p.length≤i→i<t.length→∀ c,c<j→atQ t i c=0
 lt:∀ x∈p,x<j
 len:p.length≤t.length
theorem red_step {t:List (List Rat)} {p:List Nat} {j m:Nat} (h:Red t p j) (hw:Wide t m) (hj:j<m):Red (stepQ t p j).1 (stepQ t p j).2 (j+1):=by
 unfold stepQ
 split
 ·rename_i hp
  have h1:p.length≤pivQ t j p.length:=pivQ_ge;have h2:p.length<t.length:=by omega
  have h0:atQ (swapQ t p.length (pivQ t j p.length)) p.length j≠0:=by rw[swapQ_at h2 hp];exact pivQ_ne hp
  have hws:=hw.swap h2 hp;have hl:(swapQ t p.length (pivQ t j p.length)).length=t.length:=swapQ_len ..
  show Red (clearQ (swapQ t p.length (pivQ t j p.length)) p.length j) (p++[j]) (j+1)
  generalize pivQ t j p.length=i0 at hp h1 h0 hws hl ⊢;have hz:∀ c,c<j→atQ (swapQ t p.length i0) p.length c=0:=fun c hc=>by rw[swapQ_at h2 hp];exact h.zero i0 h1 hp c hc
  have hs:∀ i,p.length≤i→i<t.length→∀ c,c<j→atQ (swapQ t p.length i0) i c=0:=fun i hi hi' c hc=>by
   rw[swapQ_atx h2 hp]
   split
   ·exact h.zero _ (Nat.le_refl _) h2 c hc
   ·split
    ·exact h.zero _ h1 hp c hc
    ·exact h.zero _ hi hi' c hc
  have hlow:∀ i,i<p.length→∀ c,atQ (swapQ t p.length i0) i c=atQ t i c:=fun i hi c=>by rw[swapQ_atx h2 hp,if_neg (by omega),if_neg (by omega)]
  refine⟨fun k hk i hi=>?_,fun i hi hi' c hc=>?_,fun x hx=>?_,?_⟩
  ·simp only[clearQ_len,hl] at hi
   by_cases hkp:k<p.length
   ·have e:(p++[j])[k]=p[k]:=List.getElem_append_left hkp;have hlt:p[k]<j:=h.lt _ (List.getElem_mem _);rw[e,clearQ_at hws (by omega) (by omega) (by omega),hz _ hlt];by_cases ei:i=p.length
    ·rw[if_pos ei,if_neg (by omega),Rat.div_def,Rat.zero_mul]
    ·rw[if_neg ei,Rat.div_def,Rat.zero_mul,Rat.mul_zero,Rat.sub_eq_add_neg,Rat.neg_zero,Rat.add_zero];rcases Nat.lt_or_gt_of_ne ei with h5 | h5
     ·rw[hlow i h5];exact h.one k hkp i hi
     ·rw[hs i (by omega) hi _ hlt,if_neg (by omega)]
   ·have ek:k=p.length:=by simp at hk;omega
    subst ek;have e:(p++[j])[p.length]'hk=j:=by simp
    rw[e,clearQ_at hws (by omega) (by omega) hj];have e1:atQ (swapQ t p.length i0) p.length j / atQ (swapQ t p.length i0) p.length j=1:=by rw[Rat.div_def];exact Rat.mul_inv_cancel _ h0
    by_cases ei:i=p.length
    ·rw[if_pos ei,if_pos ei,e1]
    ·rw[if_neg ei,if_neg ei,e1,Rat.mul_one,Rat.sub_eq_add_neg,Rat.add_neg_cancel]
  ·simp only[clearQ_len,hl] at hi'
   simp at hi
   rw[clearQ_at hws (by omega) (by omega) (by omega),if_neg (by omega)];rcases Nat.lt_or_eq_of_le (Nat.le_of_lt_succ hc) with h5 | h5
   ·rw[hz c h5,hs i (by omega) hi' c h5,Rat.div_def,Rat.zero_mul,Rat.mul_zero,Rat.sub_eq_add_neg,Rat.neg_zero,Rat.add_zero]
   ·subst h5;have e1:atQ (swapQ t p.length i0) p.length c / atQ (swapQ t p.length i0) p.length c=1:=by rw[Rat.div_def];exact Rat.mul_inv_cancel _ h0
    rw[e1,Rat.mul_one,Rat.sub_eq_add_neg,Rat.add_neg_cancel]
  ·rcases List.mem_append.1 hx with h5 | h5
   ·have:=h.lt x h5;omega
   ·have e:x=j:=by simpa using h5
    omega
  ·simp only[clearQ_len,hl,List.length_append,List.length_singleton];omega
 ·rename_i hp
  show Red t p (j+1)
  have h6:=pivQ_le (j:=j) h.len;have h7:pivQ t j p.length=t.length:=by omega
  have h8:=(pivF_spec t j (t.length-p.length) p.length).2.2.1;refine⟨h.one,fun i hi hi' c hc=>?_,fun x hx=>Nat.lt_succ_of_lt (h.lt x hx),h.len⟩;rcases Nat.lt_or_eq_of_le (Nat.le_of_lt_succ hc) with h5 | h5
  ·exact h.zero i hi hi' c h5
  ·subst h5;exact h8 i hi (by unfold pivQ at h7;omega)
theorem red_elim {t:List (List Rat)} {m:Nat} (hw:Wide t m):∀ j,j≤m→Red (elimQ t j).1 (elimQ t j).2 j
 | 0,_=>⟨fun k hk=>by simp[elimQ] at hk,fun i _ _ c hc=>by omega,fun x hx=>(by cases hx),Nat.zero_le _⟩
 | j+1,hj=>red_step (red_elim hw j (by omega)) (Wide.elim hw j) (by omega)
theorem dot_two {r w:List Rat} {c d:Nat} (hcd:c≠d):∀ {n:Nat},(∀ k,k<n→k≠c→k≠d→r.getD k 0*w.getD k 0=0) →
  dotTo r w n=(if c<n then r.getD c 0*w.getD c 0 else 0)+(if d<n then r.getD d 0*w.getD d 0 else 0)
 | 0,_=>by simp[dotTo,Rat.add_zero]
 | n+1,h=>by
  rw[dotTo,dot_two hcd (n:=n) fun k hk=>h k (by omega)];by_cases e1:n=c
  ·subst e1;rw[if_neg (Nat.lt_irrefl _),if_pos (Nat.lt_succ_self _),Rat.zero_add,Rat.add_comm];have e2:(d<n+1)↔d<n:=by omega
   simp only[e2]
  ·by_cases e2:n=d
   ·subst e2;rw[if_neg (Nat.lt_irrefl n),if_pos (Nat.lt_succ_self n),Rat.add_zero];have e3:(c<n+1)↔c<n:=by omega
    simp only[e3]
   ·rw[h n (Nat.lt_succ_self _) e1 e2,Rat.add_zero];have e3:(c<n+1)↔c<n:=by omega
    have e4:(d<n+1)↔d<n:=by omega
    simp only[e3,e4]
theorem dot_one {r w:List Rat} {c:Nat}:∀ {n:Nat},(∀ k,k<n→k≠c→r.getD k 0*w.getD k 0=0)→dotTo r w n=if c<n then r.getD c 0*w.getD c 0 else 0
 | 0,_=>by simp[dotTo]
 | n+1,h=>by
  rw[dotTo,dot_one (n:=n) fun k hk=>h k (by omega)];by_cases e1:n=c
  ·subst e1;rw[if_neg (Nat.lt_irrefl _),if_pos (Nat.lt_succ_self _),Rat.zero_add]
  ·rw[h n (Nat.lt_succ_self _) e1,Rat.add_zero];have e3:(c<n+1)↔c<n:=by omega
   simp only[e3]
theorem dot_nil {r w:List Rat}:∀ {n:Nat},(∀ k,k<n→r.getD k 0*w.getD k 0=0)→dotTo r w n=0
 | 0,_=>rfl
 | n+1,h=>by rw[dotTo,dot_nil (n:=n) fun k hk=>h k (by omega),h n (Nat.lt_succ_self _),Rat.add_zero]
theorem dot_add {r x y z:List Rat}:∀ {n:Nat},(∀ k,k<n→z.getD k 0=x.getD k 0+y.getD k 0)→dotTo r z n=dotTo r x n+dotTo r y n
 | 0,_=>by simp[dotTo,Rat.add_zero]
 | n+1,h=>by rw[dotTo,dotTo,dotTo,dot_add (n:=n) fun k hk=>h k (by omega),h n (by omega)];grind
theorem withQ_len (a:List (List Rat)) (b:List Rat):(withQ a b).length=a.length:=by simp[withQ]
theorem withQ_row {a:List (List Rat)} {b:List Rat} {i:Nat} (hi:i<a.length):(withQ a b).getD i []=a.getD i []++[b.getD i 0]:=by
 rw[getD_is (by rw[withQ_len];exact hi),getD_is hi];simp[withQ]
theorem withQ_wide {a:List (List Rat)} {b:List Rat} {n:Nat} (h:Wide a n):Wide (withQ a b) (n+1):=by
 intro r hr;unfold withQ at hr;obtain⟨i,hi,rfl⟩:=List.mem_mapIdx.1 hr;simp[h _ (List.getElem_mem hi)]
def SolA (n:Nat) (a:List (List Rat)) (b x:List Rat):Prop:=∀ i,i<a.length→dotTo (a.getD i []) x n=b.getD i 0
theorem solA_iff {n:Nat} {a:List (List Rat)} {b x:List Rat} (h:Wide a n):Sol n (withQ a b) x↔SolA n a b x:=by
 have key:∀ i,i<a.length→(dotTo ((withQ a b).getD i []) x n=dotTo (a.getD i []) x n∧atQ (withQ a b) i n=b.getD i 0):=fun i hi=>by
  have hl:(a.getD i []).length=n:=h.getD hi;rw[atQ,withQ_row hi];refine⟨dotTo_congr fun k hk=>?_,?_⟩
  ·rw[List.getD_eq_getElem?_getD,List.getElem?_append_left (by omega),← List.getD_eq_getElem?_getD]
  ·rw[List.getD_eq_getElem?_getD,List.getElem?_append_right (by omega),hl];simp
 constructor
 ·intro hs i hi;rw[← (key i hi).1,hs i (by rw[withQ_len];exact hi),(key i hi).2]
 ·intro hs i hi;rw[withQ_len] at hi;rw[(key i hi).1,hs i hi,(key i hi).2]
theorem dot_unit {r y:List Rat} {n i:Nat} (h:∀ k,k<n→r.getD k 0=if i=k then 1 else 0):dotTo r y n=if i<n then y.getD i 0 else 0:=by
 rw[dot_one (c:=i) fun k hk e=>by rw[h k hk,if_neg (Ne.symm e),Rat.zero_mul]];by_cases hi:i<n
 ·rw[if_pos hi,if_pos hi,h i hi,if_pos rfl,Rat.one_mul]
 ·rw[if_neg hi,if_neg hi]
section
variable {n:Nat} {a:List (List Rat)} {b x:List Rat}
theorem solveQ_is (hw:Wide a n) (hn:wideQ a=n) (h:solveQ a b=some x):x.length=n∧∀ y:List Rat,SolA n a b y↔∀ i,i<n→y.getD i 0=x.getD i 0:=by
 unfold solveQ at h;rw[hn] at h
 split at h
 ·rename_i hc
  obtain⟨h1,h2⟩:=hc;injection h with h
  have hww:=withQ_wide (b:=b) hw;have R:=red_elim hww n (by omega);have hlen:=elimQ_len (withQ a b) n;have hp:=piv_full (elimQ_sorted (withQ a b) n).1 R.lt h2;have hse:∀ y,Sol n (elimQ (withQ a b) n).1 y↔SolA n a b y:=fun y=>(sol_elim hww n).trans (solA_iff hw)
  generalize elimQ (withQ a b) n=e at *
  have hpv:pivQ e.1 n n=e.1.length:=by unfold solvQ at h1;rw[h2] at h1;simpa using h1
  have hz:∀ i,n≤i→i<e.1.length→atQ e.1 i n=0:=by
   have h8:=(pivF_spec e.1 n (e.1.length-n) n).2.2.1;intro i hi hi';exact h8 i hi (by unfold pivQ at hpv;omega)
  have hx:x.length=n:=by rw[← h];simp[lastQ]
  have hxi:∀ i,i<n→x.getD i 0=atQ e.1 i n:=fun i hi=>by rw[getD_is (by omega)];subst h;simp[lastQ]
  refine⟨hx,fun y=>?_⟩;have hle:n≤e.1.length:=by have:=R.len;omega
  have hone:∀ i,i<e.1.length→∀ k,k<n→(e.1.getD i []).getD k 0=if i=k then 1 else 0:=fun i hi k hk=>by
   have h3:=R.one k (by omega) i hi;have h4:e.2[k]'(by omega)=k:=by simp[hp]
   rw[h4] at h3;exact h3
  rw[← hse]
  constructor
  ·intro hs i hi;have h3:=hs i (by omega);rw[dot_unit (hone i (by omega)),if_pos hi] at h3;rw[h3,hxi i hi]
  ·intro hy i hi;rw[dot_unit (hone i hi)];by_cases h3:i<n
   ·rw[if_pos h3,hy i h3,hxi i h3]
   ·rw[if_neg h3,hz i (by omega) hi]
 ·cases h
theorem solveQ_not (hw:Wide a n) (hn:wideQ a=n) (h:solveQ a b=none) (hx:SolA n a b x):∃ y:List Rat,y.length=n∧SolA n a b y∧∃ i,i<n∧y.getD i 0≠x.getD i 0:=by
 unfold solveQ at h;rw[hn] at h;have hww:=withQ_wide (b:=b) hw;have R:=red_elim hww n (by omega);have hsort:=elimQ_sorted (withQ a b) n;have hse:∀ y,Sol n (elimQ (withQ a b) n).1 y↔SolA n a b y:=fun y=>(sol_elim hww n).trans (solA_iff hw)
 have hwe:=Wide.elim hww n
 split at h
 ·cases h
 ·rename_i hc
  generalize elimQ (withQ a b) n=e at *
  have hs:=(hse x).2 hx
  -- the rows behind are zeros
  have hz:∀ i,e.2.length≤i→i<e.1.length→atQ e.1 i n=0:=fun i hi hi'=>by
   rw[← hs i hi',dot_nil fun k hk=>by rw[show(e.1.getD i []).getD k 0=atQ e.1 i k from rfl,R.zero i hi hi' k hk,Rat.zero_mul]]
  have hsv:solvQ e n=true:=by
   unfold solvQ;have h6:=pivQ_le (j:=n) R.len;have h7:¬ pivQ e.1 n e.2.length<e.1.length:=fun hlt=>pivQ_ne hlt (hz _ pivQ_ge hlt)
   simp;omega
  have hpl:e.2.length≠n:=fun e'=>hc ⟨hsv,e'⟩
  -- a column without a pivot
  have hj:∃ j,j<n∧j∉e.2:=by
   refine Classical.byContradiction fun hno=>?_
   have hall:∀ j,j<n→j∈e.2:=fun j hj=>Classical.byContradiction fun h'=>hno ⟨j,hj,h'⟩
   have hnd:(List.range n).Nodup:=List.nodup_range;have h1:n≤e.2.length:=by
    have:=hnd.length_le_of_subset (l₂:=e.2) (fun j hj=>hall j (List.mem_range.1 hj))
    simpa using this
   have h2:e.2.length≤n:=by
    have hnd2:e.2.Nodup:=hsort.1.imp fun h=>Nat.ne_of_lt h
    have:=hnd2.length_le_of_subset (l₂:=List.range n) (fun j hj=>List.mem_range.2 (R.lt j hj))
    simpa using this
   omega
  obtain⟨j,hj,hjp⟩:=hj;have hwg:∀ k,k<n→(wayQ e.1 e.2 n j).getD k 0=if k=j then 1 else if k∈e.2 then -(atQ e.1 (e.2.idxOf k) j) else 0:=fun k hk=>by
   rw[getD_is (by simp[wayQ];exact hk)];simp[wayQ]
  refine⟨(List.range n).map fun i=>x.getD i 0+(wayQ e.1 e.2 n j).getD i 0,by simp,?_,j,hj,?_⟩
  ·rw[← hse];intro i hi;have hyg:∀ k,k<n→((List.range n).map fun i=>x.getD i 0+(wayQ e.1 e.2 n j).getD i 0).getD k 0=x.getD k 0+(wayQ e.1 e.2 n j).getD k 0:=fun k hk=>by
    rw[getD_is (by simpa using hk)];simp
   rw[dot_add hyg,hs i hi];have h0:dotTo (e.1.getD i []) (wayQ e.1 e.2 n j) n=0:=by
    rcases Nat.lt_or_ge i e.2.length with hlt | hge
    ·have hpj:e.2[i]≠j:=fun e'=>hjp (e'▸List.getElem_mem _)
     have hpn:e.2[i]<n:=R.lt _ (List.getElem_mem _);rw[dot_two (c:=j) (d:=e.2[i]) (Ne.symm hpj) fun k hk h1 h2=>?_]
     ·rw[if_pos hj,if_pos hpn,hwg j hj,hwg _ hpn,if_pos rfl,if_neg hpj,if_pos (List.getElem_mem _)];have hidx:e.2.idxOf e.2[i]=i:=List.Nodup.idxOf_getElem (hsort.1.imp fun h=>Nat.ne_of_lt h) i hlt;have h3:=R.one i hlt i hi;rw[if_pos rfl] at h3;rw[hidx,show(e.1.getD i []).getD e.2[i] 0=atQ e.1 i e.2[i] from rfl,h3,show(e.1.getD i []).getD j 0=atQ e.1 i j from rfl]
      grind
     ·rw[hwg k hk,if_neg h1]
      split
      ·rename_i hm
       obtain⟨m,hm1,hm2⟩:=List.getElem_of_mem hm;have h3:=R.one m hm1 i hi;rw[hm2,if_neg (fun e'=>h2 (by rw[← hm2];simp[e']))] at h3;rw[show(e.1.getD i []).getD k 0=atQ e.1 i k from rfl,h3,Rat.zero_mul]
      ·rw[Rat.mul_zero]
    ·exact dot_nil fun k hk=>by rw[show(e.1.getD i []).getD k 0=atQ e.1 i k from rfl,R.zero i hge hi k hk,Rat.zero_mul]
   rw[h0,Rat.add_zero]
  ·rw[getD_is (by simpa using hj)];simp only[List.getElem_map,List.getElem_range]
   rw[hwg j hj,if_pos rfl];intro h1;have h2:(1:Rat)=0:=by grind
   exact absurd h2 (by decide)
end
theorem sumN_congr {f g:Nat→Rat}:∀ {n:Nat},(∀ k,k<n→f k=g k)→sumN f n=sumN g n
 | 0,_=>rfl
 | n+1,h=>by rw[sumN,sumN,sumN_congr (n:=n) fun k hk=>h k (by omega),h n (by omega)]
theorem sumN_add {f g:Nat→Rat}:∀ {n:Nat},sumN (fun k=>f k+g k) n=sumN f n+sumN g n
 | 0=>by simp[sumN,Rat.add_zero]
 | n+1=>by rw[sumN,sumN,sumN,sumN_add (n:=n)];grind
theorem sumN_mul {f:Nat→Rat} {c:Rat}:∀ {n:Nat},sumN (fun k=>c*f k) n=c*sumN f n
 | 0=>by simp[sumN,Rat.mul_zero]
 | n+1=>by rw[sumN,sumN,sumN_mul (n:=n)];grind
theorem sumN_zero {f:Nat→Rat} {n:Nat} (h:∀ k,k<n→f k=0):sumN f n=0:=by
 rw[sumN_congr (g:=fun k=>0*f k) fun k hk=>by rw[h k hk,Rat.mul_zero],sumN_mul,Rat.zero_mul]
theorem sumN_comm {f:Nat→Nat→Rat} {m:Nat}:∀ {n:Nat},sumN (fun i=>sumN (fun j=>f i j) n) m=sumN (fun j=>sumN (fun i=>f i j) m) n
 | 0=>by rw[sumN];exact sumN_zero fun _ _=>rfl
 | n+1=>by
  show sumN (fun i=>sumN (fun j=>f i j) n+f i n) m=sumN (fun j=>sumN (fun i=>f i j) m) n+sumN (fun i=>f i n) m
  rw[sumN_add,sumN_comm (n:=n)]
theorem sumN_nonneg {f:Nat→Rat}:∀ {n:Nat},(∀ k,k<n→0≤f k)→0≤sumN f n
 | 0,_=>Rat.le_refl
 | n+1,h=>by rw[sumN];exact Rat.add_nonneg (sumN_nonneg fun k hk=>h k (by omega)) (h n (by omega))
theorem sumN_pos_zero {f:Nat→Rat}:∀ {n:Nat},(∀ k,k<n→0≤f k)→sumN f n=0→∀ k,k<n→f k=0
 | 0,_,_,k,hk=>by omega
 | n+1,h,h0,k,hk=>by
  rw[sumN] at h0;have h1:0≤sumN f n:=sumN_nonneg fun k hk=>h k (by omega)
  have h2:0≤f n:=h n (by omega);have h3:f n=0:=by grind
  rcases Nat.lt_or_eq_of_le (Nat.le_of_lt_succ hk) with h4 | h4
  ·exact sumN_pos_zero (fun k hk=>h k (by omega)) (by grind) k h4
  ·subst h4;exact h3
theorem dot_sum (r s:List Rat):∀ n,dotTo r s n=sumN (fun k=>r.getD k 0*s.getD k 0) n
 | 0=>rfl
 | n+1=>by rw[dotTo,sumN,dot_sum r s n]
theorem sq_nonneg (x:Rat):0≤x*x:=by
 rcases(Rat.le_total:0≤x∨x≤0) with h | h
 ·exact Rat.mul_nonneg h h
 ·have h1:0≤-x:=by grind
  have:=Rat.mul_nonneg h1 h1
  grind
theorem sq_zero {x:Rat} (h:x*x=0):x=0:=by grind
def restQ (n:Nat) (a:List (List Rat)) (b x:List Rat) (i:Nat):Rat:=dotTo (a.getD i []) x n-b.getD i 0
def sqQ (n:Nat) (a:List (List Rat)) (b x:List Rat):Rat:=sumN (fun i=>restQ n a b x i*restQ n a b x i) a.length
def SolN (n:Nat) (a:List (List Rat)) (b:List Rat) (l:Rat) (d x:List Rat):Prop:=
 ∀ j,j<n→sumN (fun i=>atQ a i j*restQ n a b x i) a.length+l*d.getD j 0*x.getD j 0=0
theorem rest_add {n:Nat} {a:List (List Rat)} {b x y z:List Rat} {i:Nat} (h:∀ k,k<n→z.getD k 0=x.getD k 0+y.getD k 0):restQ n a b z i=restQ n a b x i+dotTo (a.getD i []) y n:=by
 unfold restQ;rw[dot_add h];grind
theorem cross {n:Nat} {a:List (List Rat)} {b x e:List Rat}:sumN (fun i=>dotTo (a.getD i []) e n*restQ n a b x i) a.length=sumN (fun j=>e.getD j 0*sumN (fun i=>atQ a i j*restQ n a b x i) a.length) n:=by
 have h1:∀ i,i<a.length→dotTo (a.getD i []) e n*restQ n a b x i=sumN (fun j=>e.getD j 0*(atQ a i j*restQ n a b x i)) n:=fun i _=>by
  rw[dot_sum,Rat.mul_comm,← sumN_mul];exact sumN_congr fun k _=>by unfold atQ;grind
 rw[sumN_congr h1,sumN_comm];exact sumN_congr fun k _=>by rw[sumN_mul]
def dampS (n:Nat) (a:List (List Rat)) (b:List Rat) (l:Rat) (d x:List Rat):Rat:=sqQ n a b x+l*sumN (fun j=>d.getD j 0*(x.getD j 0*x.getD j 0)) n
theorem damp_diff {n:Nat} {a:List (List Rat)} {b d x e y:List Rat} {l:Rat} (hx:SolN n a b l d x) (hy:∀ k,k<n→y.getD k 0=x.getD k 0+e.getD k 0) :
  dampS n a b l d y=dampS n a b l d x+(sumN (fun i=>dotTo (a.getD i []) e n*dotTo (a.getD i []) e n) a.length+l*sumN (fun j=>d.getD j 0*(e.getD j 0*e.getD j 0)) n):=by
 have h1:sqQ n a b y=sqQ n a b x+sumN (fun i=>dotTo (a.getD i []) e n*dotTo (a.getD i []) e n) a.length+2*sumN (fun i=>dotTo (a.getD i []) e n*restQ n a b x i) a.length:=by
  unfold sqQ;rw[← sumN_mul,← sumN_add,← sumN_add];exact sumN_congr fun i _=>by rw[rest_add hy];grind
 have h2:sumN (fun j=>d.getD j 0*(y.getD j 0*y.getD j 0)) n=sumN (fun j=>d.getD j 0*(x.getD j 0*x.getD j 0)) n+sumN (fun j=>d.getD j 0*(e.getD j 0*e.getD j 0)) n+2*sumN (fun j=>e.getD j 0*(d.getD j 0*x.getD j 0)) n:=by
  rw[← sumN_mul,← sumN_add,← sumN_add];exact sumN_congr fun i hi=>by rw[hy i hi];grind
 have h3:sumN (fun i=>dotTo (a.getD i []) e n*restQ n a b x i) a.length+l*sumN (fun j=>e.getD j 0*(d.getD j 0*x.getD j 0)) n=0:=by
  rw[cross,← sumN_mul,← sumN_add];refine sumN_zero fun j hj=>?_
  have:=hx j hj
  grind
 unfold dampS;rw[h1,h2]
 grind
def det2 (a b c d:Rat):Rat:=a*d-b*c
def det3 (a b c d e f g h i:Rat):Rat:=a*(e*i-f*h)-b*(d*i-f*g)+c*(d*h-e*g)
def det4 (a11 a12 a13 a14 a21 a22 a23 a24 a31 a32 a33 a34 a41 a42 a43 a44:Rat):Rat:=
 a11*det3 a22 a23 a24 a32 a33 a34 a42 a43 a44-a12*det3 a21 a23 a24 a31 a33 a34 a41 a43 a44+a13*det3 a21 a22 a24 a31 a32 a34 a41 a42 a44-a14*det3 a21 a22 a23 a31 a32 a33 a41 a42 a43
section
variable (a11 a12 a13 a14 a21 a22 a23 a24 a31 a32 a33 a34 a41 a42 a43 a44 x1 x2 x3 x4:Rat)
theorem cramer_1:det4 (a11*x1+a12*x2+a13*x3+a14*x4) a12 a13 a14 (a21*x1+a22*x2+a23*x3+a24*x4) a22 a23 a24 (a31*x1+a32*x2+a33*x3+a34*x4) a32 a33 a34 (a41*x1+a42*x2+a43*x3+a44*x4) a42 a43 a44=det4 a11 a12 a13 a14 a21 a22 a23 a24 a31 a32 a33 a34 a41 a42 a43 a44*x1:=by
 unfold det4 det3;grind
theorem cramer_2:det4 a11 (a11*x1+a12*x2+a13*x3+a14*x4) a13 a14 a21 (a21*x1+a22*x2+a23*x3+a24*x4) a23 a24 a31 (a31*x1+a32*x2+a33*x3+a34*x4) a33 a34 a41 (a41*x1+a42*x2+a43*x3+a44*x4) a43 a44=det4 a11 a12 a13 a14 a21 a22 a23 a24 a31 a32 a33 a34 a41 a42 a43 a44*x2:=by
 unfold det4 det3;grind
theorem cramer_3:det4 a11 a12 (a11*x1+a12*x2+a13*x3+a14*x4) a14 a21 a22 (a21*x1+a22*x2+a23*x3+a24*x4) a24 a31 a32 (a31*x1+a32*x2+a33*x3+a34*x4) a34 a41 a42 (a41*x1+a42*x2+a43*x3+a44*x4) a44=det4 a11 a12 a13 a14 a21 a22 a23 a24 a31 a32 a33 a34 a41 a42 a43 a44*x3:=by
 unfold det4 det3;grind
theorem cramer_4:det4 a11 a12 a13 (a11*x1+a12*x2+a13*x3+a14*x4) a21 a22 a23 (a21*x1+a22*x2+a23*x3+a24*x4) a31 a32 a33 (a31*x1+a32*x2+a33*x3+a34*x4) a41 a42 a43 (a41*x1+a42*x2+a43*x3+a44*x4)=det4 a11 a12 a13 a14 a21 a22 a23 a24 a31 a32 a33 a34 a41 a42 a43 a44*x4:=by
 unfold det4 det3;grind
theorem minor3_4:det3 a11 a12 a13 a21 a22 a23 a31 a32 a33*(a41*x1+a42*x2+a43*x3+a44*x4)-det3 a11 a12 a13 a21 a22 a23 a41 a42 a43*(a31*x1+a32*x2+a33*x3+a34*x4)+det3 a11 a12 a13 a31 a32 a33 a41 a42 a43*(a21*x1+a22*x2+a23*x3+a24*x4)-det3 a21 a22 a23 a31 a32 a33 a41 a42 a43*(a11*x1+a12*x2+a13*x3+a14*x4)=det4 a11 a12 a13 a14 a21 a22 a23 a24 a31 a32 a33 a34 a41 a42 a43 a44*x4:=by
 unfold det4 det3;grind
theorem minor3_3:det3 a11 a12 a14 a21 a22 a24 a31 a32 a34*(a41*x1+a42*x2+a43*x3+a44*x4)-det3 a11 a12 a14 a21 a22 a24 a41 a42 a44*(a31*x1+a32*x2+a33*x3+a34*x4)+det3 a11 a12 a14 a31 a32 a34 a41 a42 a44*(a21*x1+a22*x2+a23*x3+a24*x4)-det3 a21 a22 a24 a31 a32 a34 a41 a42 a44*(a11*x1+a12*x2+a13*x3+a14*x4)=-(det4 a11 a12 a13 a14 a21 a22 a23 a24 a31 a32 a33 a34 a41 a42 a43 a44*x3):=by
 unfold det4 det3;grind
theorem minor3_2:det3 a11 a13 a14 a21 a23 a24 a31 a33 a34*(a41*x1+a42*x2+a43*x3+a44*x4)-det3 a11 a13 a14 a21 a23 a24 a41 a43 a44*(a31*x1+a32*x2+a33*x3+a34*x4)+det3 a11 a13 a14 a31 a33 a34 a41 a43 a44*(a21*x1+a22*x2+a23*x3+a24*x4)-det3 a21 a23 a24 a31 a33 a34 a41 a43 a44*(a11*x1+a12*x2+a13*x3+a14*x4)=det4 a11 a12 a13 a14 a21 a22 a23 a24 a31 a32 a33 a34 a41 a42 a43 a44*x2:=by
 unfold det4 det3;grind
end
theorem minor2 (a b c d e f g h i j k l x1 x2 x3 x4:Rat) :
  -- rows (a b c d),(e f g h),(i j k l)
  det2 a b e f*(i*x1+j*x2+k*x3+l*x4)-det2 a b i j*(e*x1+f*x2+g*x3+h*x4)+det2 e f i j*(a*x1+b*x2+c*x3+d*x4)=det3 a b c e f g i j k*x3+det3 a b d e f h i j l*x4:=by
 unfold det2 det3;grind
theorem minor1 (a b c d e f g h x1 x2 x3 x4:Rat) :
  a*(e*x1+f*x2+g*x3+h*x4)-e*(a*x1+b*x2+c*x3+d*x4)=det2 a b e f*x2+det2 a c e g*x3+det2 a d e h*x4:=by
 unfold det2;grind
theorem first0 {a11 a12 a13 a14 a21 a22 a23 a24 a31 a32 a33 a34 a41 a42 a43 a44 x1 x2 x3 x4 y1 y2 y3 y4 z1 z2 z3 z4:Rat} (h0:det4 a11 a12 a13 a14 a21 a22 a23 a24 a31 a32 a33 a34 a41 a42 a43 a44=0)
  (hx1:a11*x1+a12*x2+a13*x3+a14*x4=0) (hx2:a21*x1+a22*x2+a23*x3+a24*x4=1)
  (hy1:a11*y1+a12*y2+a13*y3+a14*y4=0) (hy2:a21*y1+a22*y2+a23*y3+a24*y4=0) (hy3:a31*y1+a32*y2+a33*y3+a34*y4=1)
  (hz1:a11*z1+a12*z2+a13*z3+a14*z4=0) (hz2:a21*z1+a22*z2+a23*z3+a24*z4=0) (hz3:a31*z1+a32*z2+a33*z3+a34*z4=0) (hz4:a41*z1+a42*z2+a43*z3+a44*z4=1):a11=0:=by
 have t123:det3 a11 a12 a13 a21 a22 a23 a31 a32 a33=0:=by have h:=minor3_4 a11 a12 a13 a14 a21 a22 a23 a24 a31 a32 a33 a34 a41 a42 a43 a44 z1 z2 z3 z4;rw[h0,hz1,hz2,hz3,hz4] at h;grind
 have t124:det3 a11 a12 a14 a21 a22 a24 a31 a32 a34=0:=by have h:=minor3_3 a11 a12 a13 a14 a21 a22 a23 a24 a31 a32 a33 a34 a41 a42 a43 a44 z1 z2 z3 z4;rw[h0,hz1,hz2,hz3,hz4] at h;grind
 have t134:det3 a11 a13 a14 a21 a23 a24 a31 a33 a34=0:=by have h:=minor3_2 a11 a12 a13 a14 a21 a22 a23 a24 a31 a32 a33 a34 a41 a42 a43 a44 z1 z2 z3 z4;rw[h0,hz1,hz2,hz3,hz4] at h;grind
 have s12:det2 a11 a12 a21 a22=0:=by
  have h:=minor2 a11 a12 a13 a14 a21 a22 a23 a24 a31 a32 a33 a34 y1 y2 y3 y4;have e1:a11*y1+a12*y2+a13*y3+a14*y4=0:=by grind
  have e2:a21*y1+a22*y2+a23*y3+a24*y4=0:=by grind
  have e3:a31*y1+a32*y2+a33*y3+a34*y4=1:=by grind
  rw[e1,e2,e3] at h;have g3:=t123;have g4:=t124;rw[g3,g4] at h;grind
 have s13:det2 a11 a13 a21 a23=0:=by
  have h:=minor2 a11 a13 a12 a14 a21 a23 a22 a24 a31 a33 a32 a34 y1 y3 y2 y4;have e1:a11*y1+a13*y3+a12*y2+a14*y4=0:=by grind
  have e2:a21*y1+a23*y3+a22*y2+a24*y4=0:=by grind
  have e3:a31*y1+a33*y3+a32*y2+a34*y4=1:=by grind
  rw[e1,e2,e3] at h;have g2:det3 a11 a13 a12 a21 a23 a22 a31 a33 a32=0:=by
   have e:det3 a11 a13 a12 a21 a23 a22 a31 a33 a32=-(det3 a11 a12 a13 a21 a22 a23 a31 a32 a33):=by
    unfold det3;grind
   rw[e,t123];grind
  have g4:=t134;rw[g2,g4] at h;grind
 have s14:det2 a11 a14 a21 a24=0:=by
  have h:=minor2 a11 a14 a12 a13 a21 a24 a22 a23 a31 a34 a32 a33 y1 y4 y2 y3;have e1:a11*y1+a14*y4+a12*y2+a13*y3=0:=by grind
  have e2:a21*y1+a24*y4+a22*y2+a23*y3=0:=by grind
  have e3:a31*y1+a34*y4+a32*y2+a33*y3=1:=by grind
  rw[e1,e2,e3] at h;have g2:det3 a11 a14 a12 a21 a24 a22 a31 a34 a32=0:=by
   have e:det3 a11 a14 a12 a21 a24 a22 a31 a34 a32=-(det3 a11 a12 a14 a21 a22 a24 a31 a32 a34):=by
    unfold det3;grind
   rw[e,t124];grind
  have g3:det3 a11 a14 a13 a21 a24 a23 a31 a34 a33=0:=by
   have e:det3 a11 a14 a13 a21 a24 a23 a31 a34 a33=-(det3 a11 a13 a14 a21 a23 a24 a31 a33 a34):=by
    unfold det3;grind
   rw[e,t134];grind
  rw[g2,g3] at h;grind
 have h:=minor1 a11 a12 a13 a14 a21 a22 a23 a24 x1 x2 x3 x4;rw[hx1,hx2,s12,s13,s14] at h;grind
theorem det4_ne {a11 a12 a13 a14 a21 a22 a23 a24 a31 a32 a33 a34 a41 a42 a43 a44 w1 w2 w3 w4 x1 x2 x3 x4 y1 y2 y3 y4 z1 z2 z3 z4:Rat} (hw:a11*w1+a12*w2+a13*w3+a14*w4=1)
  (hx1:a11*x1+a12*x2+a13*x3+a14*x4=0) (hx2:a21*x1+a22*x2+a23*x3+a24*x4=1)
  (hy1:a11*y1+a12*y2+a13*y3+a14*y4=0) (hy2:a21*y1+a22*y2+a23*y3+a24*y4=0) (hy3:a31*y1+a32*y2+a33*y3+a34*y4=1)
  (hz1:a11*z1+a12*z2+a13*z3+a14*z4=0) (hz2:a21*z1+a22*z2+a23*z3+a24*z4=0) (hz3:a31*z1+a32*z2+a33*z3+a34*z4=0) (hz4:a41*z1+a42*z2+a43*z3+a44*z4=1):det4 a11 a12 a13 a14 a21 a22 a23 a24 a31 a32 a33 a34 a41 a42 a43 a44≠0:=by
 intro h0;have p1:a11=0:=first0 h0 hx1 hx2 hy1 hy2 hy3 hz1 hz2 hz3 hz4;have p2:a12=0:=by
  have d:det4 a12 a11 a13 a14 a22 a21 a23 a24 a32 a31 a33 a34 a42 a41 a43 a44=0:=by
   have e:det4 a12 a11 a13 a14 a22 a21 a23 a24 a32 a31 a33 a34 a42 a41 a43 a44=-(det4 a11 a12 a13 a14 a21 a22 a23 a24 a31 a32 a33 a34 a41 a42 a43 a44):=by
    unfold det4 det3;grind
   rw[e,h0];grind
  exact first0 (x1:=x2) d (show a12*x2+a11*x1+a13*x3+a14*x4=0 by grind) (show a22*x2+a21*x1+a23*x3+a24*x4=1 by grind) (show a12*y2+a11*y1+a13*y3+a14*y4=0 by grind) (show a22*y2+a21*y1+a23*y3+a24*y4=0 by grind) (show a32*y2+a31*y1+a33*y3+a34*y4=1 by grind) (show a12*z2+a11*z1+a13*z3+a14*z4=0 by grind) (show a22*z2+a21*z1+a23*z3+a24*z4=0 by grind) (show a32*z2+a31*z1+a33*z3+a34*z4=0 by grind) (show a42*z2+a41*z1+a43*z3+a44*z4=1 by grind)
 have p3:a13=0:=by
  have d:det4 a13 a12 a11 a14 a23 a22 a21 a24 a33 a32 a31 a34 a43 a42 a41 a44=0:=by
   have e:det4 a13 a12 a11 a14 a23 a22 a21 a24 a33 a32 a31 a34 a43 a42 a41 a44=-(det4 a11 a12 a13 a14 a21 a22 a23 a24 a31 a32 a33 a34 a41 a42 a43 a44):=by
    unfold det4 det3;grind
   rw[e,h0];grind
  exact first0 (x1:=x3) d (show a13*x3+a12*x2+a11*x1+a14*x4=0 by grind) (show a23*x3+a22*x2+a21*x1+a24*x4=1 by grind) (show a13*y3+a12*y2+a11*y1+a14*y4=0 by grind) (show a23*y3+a22*y2+a21*y1+a24*y4=0 by grind) (show a33*y3+a32*y2+a31*y1+a34*y4=1 by grind) (show a13*z3+a12*z2+a11*z1+a14*z4=0 by grind) (show a23*z3+a22*z2+a21*z1+a24*z4=0 by grind) (show a33*z3+a32*z2+a31*z1+a34*z4=0 by grind) (show a43*z3+a42*z2+a41*z1+a44*z4=1 by grind)
 have p4:a14=0:=by
  have d:det4 a14 a12 a13 a11 a24 a22 a23 a21 a34 a32 a33 a31 a44 a42 a43 a41=0:=by
   have e:det4 a14 a12 a13 a11 a24 a22 a23 a21 a34 a32 a33 a31 a44 a42 a43 a41=-(det4 a11 a12 a13 a14 a21 a22 a23 a24 a31 a32 a33 a34 a41 a42 a43 a44):=by
    unfold det4 det3;grind
   rw[e,h0];grind
  exact first0 (x1:=x4) d (show a14*x4+a12*x2+a13*x3+a11*x1=0 by grind) (show a24*x4+a22*x2+a23*x3+a21*x1=1 by grind) (show a14*y4+a12*y2+a13*y3+a11*y1=0 by grind) (show a24*y4+a22*y2+a23*y3+a21*y1=0 by grind) (show a34*y4+a32*y2+a33*y3+a31*y1=1 by grind) (show a14*z4+a12*z2+a13*z3+a11*z1=0 by grind) (show a24*z4+a22*z2+a23*z3+a21*z1=0 by grind) (show a34*z4+a32*z2+a33*z3+a31*z1=0 by grind) (show a44*z4+a42*z2+a43*z3+a41*z1=1 by grind)
 rw[p1,p2,p3,p4] at hw;grind
section
variable {D D' Z Z':Nat} {q r:Rat}
theorem FR.det3 {a b c d e f g h i:Rat} (ha:FR D Z a) (hb:FR D Z b) (hc:FR D Z c) (hd:FR D Z d) (he:FR D Z e) (hf:FR D Z f) (hg:FR D Z g) (hh:FR D Z h) (hi:FR D Z i) :
  FR (D*(D*D)) (Z*(Z*Z+Z*Z)+Z*(Z*Z+Z*Z)+Z*(Z*Z+Z*Z)) (det3 a b c d e f g h i):=
 ((ha.mul ((he.mul hi).sub (hf.mul hh))).sub (hb.mul ((hd.mul hi).sub (hf.mul hg)))).add (hc.mul ((hd.mul hh).sub (he.mul hg)))
end
theorem withQ_at {a:List (List Rat)} {b:List Rat} {n i c:Nat} (hw:Wide a n) (hi:i<a.length) (hc:c<n):atQ (withQ a b) i c=atQ a i c:=by
 have hl:(a.getD i []).length=n:=hw.getD hi;unfold atQ;rw[withQ_row hi,List.getD_eq_getElem?_getD,List.getElem?_append_left (by omega),← List.getD_eq_getElem?_getD]
theorem twin_with {n:Nat} {a:List (List Rat)} (hw:Wide a n) (b b':List Rat):Twin n (withQ a b) (withQ a b'):=
 ⟨by rw[withQ_len,withQ_len],fun i c hi hc=>by rw[withQ_len] at hi;rw[withQ_at hw hi hc,withQ_at hw hi hc],withQ_wide hw,withQ_wide hw⟩
theorem solveQ_all {n:Nat} {a:List (List Rat)} {b x:List Rat} (hw:Wide a n) (hn:wideQ a=n) (hl:a.length=n) (h:solveQ a b=some x) (b':List Rat):∃ y,solveQ a b'=some y:=by
 unfold solveQ at h ⊢;rw[hn] at h ⊢
 split at h
 ·rename_i hc
  obtain⟨h1,h2⟩:=Twin.elim (twin_with hw b b') n (Nat.le_refl _);have h3:(elimQ (withQ a b') n).2.length=n:=by rw[← h2];exact hc.2
  refine⟨_,if_pos ⟨?_,h3⟩⟩;unfold solvQ;have h4:(elimQ (withQ a b') n).1.length=n:=by rw[elimQ_len,withQ_len,hl]
  rw[h3,h4];unfold pivQ;rw[h4,Nat.sub_self];simp[pivF]
 ·cases h
theorem FR.det4 {D Z:Nat} {a11 a12 a13 a14 a21 a22 a23 a24 a31 a32 a33 a34 a41 a42 a43 a44:Rat} (h11:FR D Z a11) (h12:FR D Z a12) (h13:FR D Z a13) (h14:FR D Z a14) (h21:FR D Z a21) (h22:FR D Z a22) (h23:FR D Z a23) (h24:FR D Z a24) (h31:FR D Z a31) (h32:FR D Z a32) (h33:FR D Z a33) (h34:FR D Z a34) (h41:FR D Z a41) (h42:FR D Z a42) (h43:FR D Z a43) (h44:FR D Z a44) :
  FR (D*(D*(D*D))) (24*(Z*(Z*(Z*Z)))) (det4 a11 a12 a13 a14 a21 a22 a23 a24 a31 a32 a33 a34 a41 a42 a43 a44):=by
 have h:=(((h11.mul (FR.det3 h22 h23 h24 h32 h33 h34 h42 h43 h44)).sub (h12.mul (FR.det3 h21 h23 h24 h31 h33 h34 h41 h43 h44))).add (h13.mul (FR.det3 h21 h22 h24 h31 h32 h34 h41 h42 h44))).sub (h14.mul (FR.det3 h21 h22 h23 h31 h32 h33 h41 h42 h43));refine h.mono (Nat.le_of_eq ?_);rw[Nat.mul_add,Nat.mul_add,Nat.mul_add,Nat.mul_add];generalize Z*(Z*(Z*Z))=y
 omega
def pad (n:Nat) (a:List (List Rat)) (i j:Nat):Rat:=if i<n∧j<n then atQ a i j else if i=j then 1 else 0
def padX (n:Nat) (x:List Rat) (j:Nat):Rat:=if j<n then x.getD j 0 else 0
theorem dot_pad {n:Nat} (hn:n≤4) {a:List (List Rat)} {x:List Rat} {i:Nat} (hi:i<n) :
  pad n a i 0*padX n x 0+pad n a i 1*padX n x 1+pad n a i 2*padX n x 2+pad n a i 3*padX n x 3=dotTo (a.getD i []) x n:=by
 have e:∀ j,pad n a i j*padX n x j=if j<n then (a.getD i []).getD j 0*x.getD j 0 else 0:=fun j=>by
  unfold pad padX atQ;by_cases hj:j<n
  ·rw[if_pos ⟨hi,hj⟩,if_pos hj,if_pos hj]
  ·rw[if_neg hj,Rat.mul_zero,if_neg hj]
 rw[e 0,e 1,e 2,e 3];rcases(show n=1∨n=2∨n=3∨n=4 by omega) with rfl | rfl | rfl | rfl <;> simp[dotTo,Rat.add_zero,Rat.zero_add]
theorem pad_low {n:Nat} {a:List (List Rat)} {X:Nat→Rat} {i:Nat} (hi:n≤i) (h4:i<4) :
  pad n a i 0*X 0+pad n a i 1*X 1+pad n a i 2*X 2+pad n a i 3*X 3=X i:=by
 have e:∀ j,pad n a i j=if i=j then 1 else 0:=fun j=>by unfold pad;rw[if_neg (by omega)]
 rw[e 0,e 1,e 2,e 3];rcases(show i=0∨i=1∨i=2∨i=3 by omega) with rfl | rfl | rfl | rfl <;> simp[Rat.zero_mul,Rat.one_mul,Rat.add_zero,Rat.zero_add]
section
variable {n:Nat} {a:List (List Rat)} {b x:List Rat}
theorem pad_unit (hn4:n≤4) (hw:Wide a n) (hn:wideQ a=n) (hl:a.length=n) (h:solveQ a b=some x) (k:Nat) (hk:k<4) :
  ∃ X:Nat→Rat,∀ i,i<4→pad n a i 0*X 0+pad n a i 1*X 1+pad n a i 2*X 2+pad n a i 3*X 3=if i=k then 1 else 0:=by
 by_cases hkn:k<n
 ·obtain⟨y,hy⟩:=solveQ_all hw hn hl h ((List.range n).map fun i=>if i=k then 1 else 0);have hs:=((solveQ_is hw hn hy).2 y).2 (fun _ _=>rfl);refine⟨padX n y,fun i hi=>?_⟩;rcases Nat.lt_or_ge i n with h1 | h1
  ·rw[dot_pad hn4 h1,hs i (by omega),getD_is (by simpa using h1)];simp
  ·rw[pad_low h1 hi,padX,if_neg (by omega),if_neg (by omega)]
 ·refine⟨fun j=>if j=k then 1 else 0,fun i hi=>?_⟩;rcases Nat.lt_or_ge i n with h1 | h1
  ·have e:∀ j,pad n a i j*(if j=k then 1 else 0)=0:=fun j=>by
    by_cases hj:j=k
    ·subst hj;unfold pad;rw[if_neg (by omega),if_neg (by omega),Rat.zero_mul]
    ·rw[if_neg hj,Rat.mul_zero]
   rw[e 0,e 1,e 2,e 3,if_neg (by omega)];simp[Rat.add_zero]
  ·exact pad_low (X:=fun j=>if j=k then 1 else 0) h1 hi
theorem solveQ_frac {D Z:Nat} (hn4:n≤4) (hw:Wide a n) (hn:wideQ a=n) (hl:a.length=n) (hD:0<D) (a0:D≤Z) (ha:∀ i j,FR D Z (atQ a i j))
  (h:solveQ a b=some x):∃ D',0<D'∧D'≤24*(Z*(Z*(Z*Z)))∧∀ b' y,solveQ a b'=some y→(∀ i,FR D Z (b'.getD i 0))→∀ j,j<n→FR D' (24*(Z*(Z*(Z*Z)))) (y.getD j 0):=by
 obtain⟨W,hW⟩:=pad_unit hn4 hw hn hl h 0 (by omega);obtain⟨X,hX⟩:=pad_unit hn4 hw hn hl h 1 (by omega);obtain⟨Y,hY⟩:=pad_unit hn4 hw hn hl h 2 (by omega);obtain⟨V,hV⟩:=pad_unit hn4 hw hn hl h 3 (by omega);have hne:=det4_ne (hW 0 (by omega)) (hX 0 (by omega)) (hX 1 (by omega)) (hY 0 (by omega)) (hY 1 (by omega)) (hY 2 (by omega)) (hV 0 (by omega)) (hV 1 (by omega)) (hV 2 (by omega)) (hV 3 (by omega));have hp:∀ i j,FR D Z (pad n a i j):=fun i j=>by
  unfold pad
  split
  ·exact ha i j
  ·split
   ·exact FR.mono ⟨(D:Int),by rw[Rat.one_mul];rfl,Nat.le_of_eq (Int.natAbs_natCast D)⟩ a0
   ·exact(FR.zero D).mono (Nat.zero_le _)
 have hD4:0<D*(D*(D*D)):=Nat.mul_pos hD (Nat.mul_pos hD (Nat.mul_pos hD hD));have hM:=FR.det4 (hp 0 0) (hp 0 1) (hp 0 2) (hp 0 3) (hp 1 0) (hp 1 1) (hp 1 2) (hp 1 3) (hp 2 0) (hp 2 1) (hp 2 2) (hp 2 3) (hp 3 0) (hp 3 1) (hp 3 2) (hp 3 3);obtain⟨z,hz,hz1,hz2⟩:=FR.den hne hD4 hM;refine⟨z,hz,hz1,fun b x h hb=>?_⟩;have hs:=((solveQ_is hw hn h).2 x).2 (fun _ _=>rfl);have hB:∀ i,i<4→FR D Z (pad n a i 0*padX n x 0+pad n a i 1*padX n x 1+pad n a i 2*padX n x 2+pad n a i 3*padX n x 3):=fun i hi=>by
  rcases Nat.lt_or_ge i n with h1 | h1
  ·rw[dot_pad hn4 h1,hs i (by omega)];exact hb i
  ·rw[pad_low h1 hi,padX,if_neg (by omega)];exact(FR.zero D).mono (Nat.zero_le _)
 have b0:=hB 0 (by omega);have b1:=hB 1 (by omega);have b2:=hB 2 (by omega);have b3:=hB 3 (by omega);have q0:=hz2 (cramer_1 _ _ _ _ _ _ _ _ _ _ _ _ _ _ _ _ _ _ _ _).symm (FR.det4 b0 (hp 0 1) (hp 0 2) (hp 0 3) b1 (hp 1 1) (hp 1 2) (hp 1 3) b2 (hp 2 1) (hp 2 2) (hp 2 3) b3 (hp 3 1) (hp 3 2) (hp 3 3));have q1:=hz2 (cramer_2 _ _ _ _ _ _ _ _ _ _ _ _ _ _ _ _ _ _ _ _).symm (FR.det4 (hp 0 0) b0 (hp 0 2) (hp 0 3) (hp 1 0) b1 (hp 1 2) (hp 1 3) (hp 2 0) b2 (hp 2 2) (hp 2 3) (hp 3 0) b3 (hp 3 2) (hp 3 3));have q2:=hz2 (cramer_3 _ _ _ _ _ _ _ _ _ _ _ _ _ _ _ _ _ _ _ _).symm (FR.det4 (hp 0 0) (hp 0 1) b0 (hp 0 3) (hp 1 0) (hp 1 1) b1 (hp 1 3) (hp 2 0) (hp 2 1) b2 (hp 2 3) (hp 3 0) (hp 3 1) b3 (hp 3 3));have q3:=hz2 (cramer_4 _ _ _ _ _ _ _ _ _ _ _ _ _ _ _ _ _ _ _ _).symm (FR.det4 (hp 0 0) (hp 0 1) (hp 0 2) b0 (hp 1 0) (hp 1 1) (hp 1 2) b1 (hp 2 0) (hp 2 1) (hp 2 2) b2 (hp 3 0) (hp 3 1) (hp 3 2) b3);intro j hj;have e:padX n x j=x.getD j 0:=if_pos hj;rw[← e];rcases(show j=0∨j=1∨j=2∨j=3 by omega) with rfl | rfl | rfl | rfl
 ·exact q0
 ·exact q1
 ·exact q2
 ·exact q3
end
theorem sumN_one {f:Nat→Rat} {c:Nat}:∀ {n:Nat},(∀ k,k<n→k≠c→f k=0)→sumN f n=if c<n then f c else 0
 | 0,_=>by simp[sumN]
 | n+1,h=>by
  rw[sumN,sumN_one (n:=n) fun k hk=>h k (by omega)];by_cases e1:n=c
  ·subst e1;rw[if_neg (Nat.lt_irrefl _),if_pos (Nat.lt_succ_self _),Rat.zero_add]
  ·rw[h n (Nat.lt_succ_self _) e1,Rat.add_zero];have e3:(c<n+1)↔c<n:=by omega
   simp only[e3]
section
variable {n:Nat} {a:List (List Rat)} {b x:List Rat}
theorem normM_len (a:List (List Rat)):(normM a).length=wideQ a:=by simp[normM,turnQ]
theorem normM_wide (a:List (List Rat)):Wide (normM a) (wideQ a):=by
 intro r hr;obtain⟨c,hc,rfl⟩:=List.mem_map.1 hr;simp[turnQ]
theorem normM_wq (a:List (List Rat)) (h:1≤wideQ a):wideQ (normM a)=wideQ a:=by
 have h1:=(normM_wide a).getD (i:=0) (by rw[normM_len];exact h);exact h1
theorem colQ_get {i j:Nat}:(colQ a j).getD i 0=atQ a i j:=by
 unfold atQ;rcases Nat.lt_or_ge i a.length with h | h
 ·rw[getD_is (by simpa[colQ] using h),getD_is h];simp[colQ]
 ·simp[colQ,List.getD_eq_getElem?_getD,List.getElem?_eq_none h]
theorem dotQ_col {i:Nat} {s:List Rat}:dotQ (colQ a i) s=sumN (fun r=>atQ a r i*s.getD r 0) a.length:=by
 unfold dotQ;rw[dot_sum,show(colQ a i).length=a.length by simp[colQ]];exact sumN_congr fun k _=>by rw[colQ_get]
theorem normM_at {i j:Nat} (hi:i<wideQ a) (hj:j<wideQ a):atQ (normM a) i j=sumN (fun r=>atQ a r i*atQ a r j) a.length:=by
 have h1:(normM a).getD i []=(turnQ a).map fun d=>dotQ (colQ a i) d:=by
  rw[getD_is (by rw[normM_len];exact hi)];simp[normM,turnQ]
 rw[atQ,h1,getD_is (by simpa[turnQ] using hj)];simp only[turnQ,List.getElem_map,List.getElem_range]
 rw[dotQ_col];exact sumN_congr fun k _=>by rw[colQ_get]
theorem normV_at {i:Nat} (hi:i<wideQ a):(normV a b).getD i 0=sumN (fun r=>atQ a r i*b.getD r 0) a.length:=by
 rw[getD_is (by simpa[normV,turnQ] using hi)];simp only[normV,turnQ,List.getElem_map,List.getElem_range]
 exact dotQ_col
theorem solN_iff {m:List (List Rat)} {l:Rat} {d:List Rat} (hn:wideQ a=n) (hml:m.length=n) (hm:∀ i j,i<n→j<n→atQ m i j=atQ (normM a) i j+if i=j then l*d.getD i 0 else 0) :
  SolA n m (normV a b) x↔SolN n a b l d x:=by
 have key:∀ i,i<n→(dotTo (m.getD i []) x n=(normV a b).getD i 0↔sumN (fun r=>atQ a r i*restQ n a b x r) a.length+l*d.getD i 0*x.getD i 0=0):=fun i hi=>by
  have e1:dotTo (m.getD i []) x n=sumN (fun r=>atQ a r i*dotTo (a.getD r []) x n) a.length+l*d.getD i 0*x.getD i 0:=by
   rw[dot_sum];have h1:∀ j,j<n→(m.getD i []).getD j 0*x.getD j 0=sumN (fun r=>atQ a r i*(atQ a r j*x.getD j 0)) a.length+(if i=j then l*d.getD i 0*x.getD i 0 else 0):=fun j hj=>by
    rw[show(m.getD i []).getD j 0=atQ m i j from rfl,hm i j hi hj,normM_at (by omega) (by omega),Rat.add_mul,Rat.mul_comm,← sumN_mul]
    congr 1
    ·exact sumN_congr fun r _=>by grind
    ·by_cases e:i=j
     ·subst e;rw[if_pos rfl,if_pos rfl]
     ·rw[if_neg e,if_neg e,Rat.zero_mul]
   rw[sumN_congr h1,sumN_add]
   congr 1
   ·rw[sumN_comm (f:=fun j r=>atQ a r i*(atQ a r j*x.getD j 0))];exact sumN_congr fun r _=>by rw[sumN_mul,dot_sum];rfl
   ·rw[sumN_one (c:=i) fun k _ e=>if_neg (Ne.symm e),if_pos hi,if_pos rfl]
  have e2:sumN (fun r=>atQ a r i*restQ n a b x r) a.length=sumN (fun r=>atQ a r i*dotTo (a.getD r []) x n) a.length-(normV a b).getD i 0:=by
   rw[normV_at (by omega),Rat.sub_eq_add_neg,show ∀ y:Rat,-y=-1*y by intro y;grind,← sumN_mul,← sumN_add];exact sumN_congr fun r _=>by unfold restQ;grind
  rw[e1,e2]
  constructor <;> intro h <;> grind
 constructor
 ·intro h j hj;exact(key j hj).1 (h j (by omega))
 ·intro h j hj;exact(key j (by omega)).2 (h j (by omega))
theorem sq_is (hw:Wide a n) (_hx:x.length=n):squaresQ a b x=sqQ n a b x:=by
 unfold squaresQ sqQ dotQ;rw[dot_sum,show(restL a b x).length=a.length by simp[restL]];refine sumN_congr fun i hi=>?_
 have e:(restL a b x).getD i 0=restQ n a b x i:=by
  rw[getD_is (by simpa[restL] using hi)];simp only[restL,List.getElem_mapIdx,restQ,dotQ,getD_is hi]
  rw[hw _ (List.getElem_mem hi)]
 rw[e]
theorem list_eq {x y:List Rat} (hx:x.length=n) (hy:y.length=n) (h:∀ i,i<n→x.getD i 0=y.getD i 0):x=y:=by
 apply List.ext_getElem (by omega)
 intro i h1 h2;have:=h i (by omega)
 rwa [getD_is h1,getD_is h2] at this
theorem best {y:List Rat} (hw:Wide a n) (hn:wideQ a=n) (h1:1≤n) (h:solveQ (normM a) (normV a b)=some x) (hy:y.length=n) :
  squaresQ a b x≤squaresQ a b y∧(squaresQ a b x=squaresQ a b y↔x=y):=by
 have hwm:Wide (normM a) n:=hn▸normM_wide a;have hwq:wideQ (normM a)=n:=by rw[normM_wq a (by omega),hn]
 obtain⟨hx,hu⟩:=solveQ_is hwm hwq h;have hm0:∀ i j,i<n→j<n→atQ (normM a) i j=atQ (normM a) i j+if i=j then (0:Rat)*([]:List Rat).getD i 0 else 0:=fun i j _ _=>by
  split <;> simp[Rat.add_zero]
 have hml:(normM a).length=n:=by rw[normM_len,hn]
 have hsx:SolN n a b 0 [] x:=(solN_iff hn hml hm0).1 ((hu x).2 fun _ _=>rfl);have hdiff:=damp_diff (y:=y) (e:=(List.range n).map fun k=>y.getD k 0-x.getD k 0) hsx (fun k hk=>by
  rw[getD_is (l:=(List.range n).map _) (by simpa using hk)];simp;grind)
 unfold dampS at hdiff;rw[Rat.zero_mul,Rat.zero_mul,Rat.zero_mul,Rat.add_zero,Rat.add_zero,Rat.add_zero,← sq_is hw hx,← sq_is hw hy] at hdiff;generalize he:((List.range n).map fun k=>y.getD k 0-x.getD k 0)=e at hdiff;have hnn:0≤sumN (fun i=>dotTo (a.getD i []) e n*dotTo (a.getD i []) e n) a.length:=sumN_nonneg fun k _=>sq_nonneg _
 refine⟨by rw[hdiff];grind,⟨fun heq=>?_,fun heq=>by rw[heq]⟩⟩;have h0:sumN (fun i=>dotTo (a.getD i []) e n*dotTo (a.getD i []) e n) a.length=0:=by rw[heq] at hdiff;grind
 have hz:=sumN_pos_zero (fun k _=>sq_nonneg _) h0;have hye:∀ k,k<n→y.getD k 0=x.getD k 0+e.getD k 0:=fun k hk=>by
  rw[← he,getD_is (l:=(List.range n).map _) (by simpa using hk)];simp;grind
 have hsy:SolN n a b 0 [] y:=fun j hj=>by
  have h3:=hsx j hj;have h4:sumN (fun i=>atQ a i j*restQ n a b y i) a.length=sumN (fun i=>atQ a i j*restQ n a b x i) a.length:=sumN_congr fun i hi=>by
   rw[rest_add hye,sq_zero (hz i hi),Rat.add_zero]
  rw[h4,Rat.zero_mul,Rat.zero_mul,Rat.add_zero];rw[Rat.zero_mul,Rat.zero_mul,Rat.add_zero] at h3;exact h3
 have hsy':=(hu y).1 ((solN_iff hn hml hm0).2 hsy);exact(list_eq hy hx hsy').symm
end
section
variable {n:Nat} {a:List (List Rat)} {b d x y:List Rat} {l:Rat}
end
theorem sumN_filter {q:Nat→Bool} {g:Nat→Rat}:∀ {n:Nat},sumN (fun c=>if q c=true then g c else 0) n=sumN (fun m=>g (((List.range n).filter q).getD m 0)) ((List.range n).filter q).length
 | 0=>rfl
 | n+1=>by
  rw[sumN,sumN_filter (n:=n),List.range_succ,List.filter_append];by_cases h:q n=true
  ·rw[if_pos h,show[n].filter q=[n] by simp[h],List.length_append,List.length_singleton,sumN]
   congr 1
   ·exact sumN_congr fun m hm=>by rw[List.getD_eq_getElem?_getD,List.getD_eq_getElem?_getD,List.getElem?_append_left hm]
   ·rw[List.getD_eq_getElem?_getD,List.getElem?_append_right (Nat.le_refl _)];simp
  ·rw[if_neg h,show[n].filter q=[] by simp[h],List.append_nil,Rat.add_zero]
section
variable {n:Nat} {t:List (List Rat)} {p:List Nat}
theorem free_lt {m:Nat} (hm:m<(freeQ p n).length):(freeQ p n).getD m 0<n∧(freeQ p n).getD m 0∉p:=by
 rw[getD_is hm];have h:(freeQ p n)[m]∈(List.range n).filter (fun j=>!decide (j∈p)):=List.getElem_mem hm;generalize (freeQ p n)[m]=z at h ⊢;simp only[List.mem_filter,List.mem_range,Bool.not_eq_true',decide_eq_false_iff_not] at h
 exact h
theorem waysQ_get {m i:Nat} (hm:m<(freeQ p n).length) (hi:i<n):atQ (waysQ t p n) m i=if i=(freeQ p n).getD m 0 then 1 else if i∈p then -(atQ t (p.idxOf i) ((freeQ p n).getD m 0)) else 0:=by
 have h1:(waysQ t p n).getD m []=wayQ t p n ((freeQ p n).getD m 0):=by
  rw[getD_is (by simpa[waysQ,freeQ] using hm),getD_is hm];simp[waysQ,freeQ]
 rw[atQ,h1,getD_is (by simpa[wayQ] using hi)];simp[wayQ]
def putQ (t:List (List Rat)) (p:List Nat) (n:Nat) (s:Nat→Rat) (i:Nat):Rat:=(if i∈p then atQ t (p.idxOf i) n else 0)+sumN (fun m=>s m*atQ (waysQ t p n) m i) (freeQ p n).length
theorem putQ_free {s:Nat→Rat} {m:Nat} (hnd:(freeQ p n).Nodup) (hm:m<(freeQ p n).length):putQ t p n s ((freeQ p n).getD m 0)=s m:=by
 obtain⟨h1,h2⟩:=free_lt hm;unfold putQ;rw[if_neg h2,Rat.zero_add,sumN_one (c:=m) fun k hk e=>by
  rw[waysQ_get hk h1,if_neg (fun e'=>e ?_),if_neg h2,Rat.mul_zero];rw[getD_is hm,getD_is hk] at e';exact((List.getElem_inj hnd).1 e').symm,if_pos hm,waysQ_get hm h1,if_pos rfl,Rat.mul_one]
theorem putQ_piv {s:Nat→Rat} {k:Nat} (hnd:p.Nodup) (hk:k<p.length) (hlt:p[k]<n):putQ t p n s p[k]=atQ t k n-sumN (fun m=>s m*atQ t k ((freeQ p n).getD m 0)) (freeQ p n).length:=by
 unfold putQ;rw[if_pos (List.getElem_mem _),List.Nodup.idxOf_getElem hnd k hk,Rat.sub_eq_add_neg,show ∀ y:Rat,-y=-1*y by intro y;grind,← sumN_mul]
 congr 1
 refine sumN_congr fun m hm=>?_
 obtain⟨h1,h2⟩:=free_lt hm;rw[waysQ_get hm hlt,if_neg (fun e:p[k]=(freeQ p n).getD m 0=>h2 (e▸List.getElem_mem _)),if_pos (List.getElem_mem _),List.Nodup.idxOf_getElem hnd k hk]
 grind
theorem sol_red {y:List Rat} (R:Red t p n) (hsort:p.Pairwise (· < ·)) (hz:∀ i,p.length≤i→i<t.length→atQ t i n=0) :
  Sol n t y↔∀ i,i<n→y.getD i 0=putQ t p n (fun m=>y.getD ((freeQ p n).getD m 0) 0) i:=by
 have hnd:p.Nodup:=hsort.imp fun h=>Nat.ne_of_lt h
 have key:∀ k (hk:k<p.length),k<t.length→dotTo (t.getD k []) y n=y.getD p[k] 0+sumN (fun m=>y.getD ((freeQ p n).getD m 0) 0*atQ t k ((freeQ p n).getD m 0)) (freeQ p n).length:=fun k hk hkt=>by
  rw[dot_sum];have h1:∀ c,c<n→(t.getD k []).getD c 0*y.getD c 0=(if c=p[k] then y.getD p[k] 0 else 0)+(if (!decide (c∈p))=true then y.getD c 0*atQ t k c else 0):=fun c hc=>by
   by_cases hcp:c∈p
   ·obtain⟨m,hm,rfl⟩:=List.getElem_of_mem hcp;have h2:=R.one m hm k hkt;rw[show(t.getD k []).getD p[m] 0=atQ t k p[m] from rfl,h2];by_cases e:k=m
    ·subst e;simp[hcp,Rat.one_mul,Rat.add_zero]
    ·have e2:¬ p[m]=p[k]:=fun e'=>e ((List.getElem_inj hnd).1 e').symm
     simp[hcp,e,e2,Rat.zero_mul,Rat.add_zero]
   ·have e2:¬ c=p[k]:=fun e=>hcp (e▸List.getElem_mem _)
    rw[if_neg e2,if_pos (by simpa using hcp),Rat.zero_add,Rat.mul_comm];rfl
  rw[sumN_congr h1,sumN_add,sumN_one (c:=p[k]) fun c _ e=>if_neg e,if_pos (R.lt _ (List.getElem_mem _)),if_pos rfl]
  congr 1
  exact sumN_filter (q:=fun c=>!decide (c∈p)) (g:=fun c=>y.getD c 0*atQ t k c)
 constructor
 ·intro h i hi;by_cases hip:i∈p
  ·obtain⟨k,hk,rfl⟩:=List.getElem_of_mem hip;have hkt:k<t.length:=Nat.lt_of_lt_of_le hk R.len;have h1:=h k hkt;rw[key k hk hkt] at h1;rw[putQ_piv hnd hk hi,← h1];grind
  ·obtain⟨m,hm,he⟩:∃ m,m<(freeQ p n).length∧(freeQ p n).getD m 0=i:=by
    have hmem:i∈freeQ p n:=by simp[freeQ,hi,hip]
    obtain⟨m,hm,he⟩:=List.getElem_of_mem hmem;exact⟨m,hm,by rw[getD_is hm];exact he⟩
   subst he;rw[putQ_free freeQ_nodup hm]
 ·intro h i hi;rcases Nat.lt_or_ge i p.length with h1 | h1
  ·have hlt:p[i]<n:=R.lt _ (List.getElem_mem _);rw[key i h1 hi,h _ hlt,putQ_piv hnd h1 hlt];grind
  ·rw[dot_nil fun k hk=>by rw[show(t.getD i []).getD k 0=atQ t i k from rfl,R.zero i h1 hi k hk,Rat.zero_mul],hz i h1 hi]
end
section
variable {n:Nat} {t:List (List Rat)} {p:List Nat} {a:List (List Rat)} {b s:List Rat}
theorem pointQ_get {i:Nat} (hi:i<n):(pointQ t p n).getD i 0=if i∈p then atQ t (p.idxOf i) n else 0:=by
 rw[getD_is (by rw[pointQ_len];exact hi)];simp[pointQ]
theorem movedQ_len {x s:List Rat} {w:List (List Rat)}:(movedQ x w s).length=x.length:=by simp[movedQ]
theorem movedQ_get {i:Nat} (hs:s.length=(freeQ p n).length) (hi:i<n):(movedQ (pointQ t p n) (waysQ t p n) s).getD i 0=putQ t p n (fun m=>s.getD m 0) i:=by
 rw[getD_is (by rw[movedQ_len,pointQ_len];exact hi)];simp only[movedQ,List.getElem_mapIdx]
 rw[show(pointQ t p n)[i]'(by rw[pointQ_len];exact hi)=(pointQ t p n).getD i 0 from(getD_is _).symm,pointQ_get hi,putQ,dotQ,dot_sum,hs]
 congr 1
 exact sumN_congr fun m _=>by rw[colQ_get]
theorem stepsQ_at {w:List (List Rat)} {i m:Nat} (hw:Wide a n) (hi:i<a.length) (hm:m<w.length):atQ (stepsQ a w) i m=dotTo (a.getD i []) (w.getD m []) n:=by
 have h1:(stepsQ a w).getD i []=w.map fun y=>dotQ (a.getD i []) y:=by
  rw[getD_is (by rw[stepsQ_len];exact hi),getD_is hi];simp[stepsQ]
 rw[atQ,h1,getD_is (by simpa using hm),List.getElem_map,dotQ,hw.getD hi,getD_is hm]
theorem leftQ_get {x:List Rat} {i:Nat} (hw:Wide a n) (hi:i<a.length):(leftQ a b x).getD i 0=b.getD i 0-dotTo (a.getD i []) x n:=by
 rw[getD_is (by simpa[leftQ] using hi)];simp only[leftQ,List.getElem_mapIdx,dotQ,getD_is hi]
 rw[hw _ (List.getElem_mem hi)]
theorem rest_put {y:List Rat} {σ:Nat→Rat} {i:Nat} (hw:Wide a n) (hi:i<a.length) (hy:∀ k,k<n→y.getD k 0=putQ t p n σ k) :
  restQ n a b y i=sumN (fun m=>atQ (stepsQ a (waysQ t p n)) i m*σ m) (freeQ p n).length-(leftQ a b (pointQ t p n)).getD i 0:=by
 have h1:dotTo (a.getD i []) y n=dotTo (a.getD i []) (pointQ t p n) n+sumN (fun m=>atQ (stepsQ a (waysQ t p n)) i m*σ m) (freeQ p n).length:=by
  have h2:∀ m,m<(freeQ p n).length→atQ (stepsQ a (waysQ t p n)) i m*σ m=sumN (fun c=>(a.getD i []).getD c 0*(σ m*atQ (waysQ t p n) m c)) n:=fun m hm=>by
   rw[stepsQ_at hw hi (by rw[waysQ_len];exact hm),dot_sum,Rat.mul_comm,← sumN_mul];exact sumN_congr fun c _=>by unfold atQ;grind
  rw[sumN_congr h2,sumN_comm,dot_sum,dot_sum,← sumN_add];refine sumN_congr fun c hc=>?_
  rw[hy c hc,sumN_mul,pointQ_get hc];unfold putQ
  grind
 unfold restQ;rw[h1,leftQ_get hw hi];grind
theorem bound_least {y:List Rat} (hw:Wide a n) (hal:1≤a.length) (R:Red t p n) (hsort:p.Pairwise (· < ·)) (hz:∀ i,p.length≤i→i<t.length→atQ t i n=0)
  (hf:1≤(freeQ p n).length) (h:solveQ (normM (stepsQ a (waysQ t p n))) (normV (stepsQ a (waysQ t p n)) (leftQ a b (pointQ t p n)))=some s) :
  s.length=(freeQ p n).length∧Sol n t (movedQ (pointQ t p n) (waysQ t p n) s)∧(Sol n t y→sqQ n a b (movedQ (pointQ t p n) (waysQ t p n) s)≤sqQ n a b y):=by
 have hws:Wide (stepsQ a (waysQ t p n)) (freeQ p n).length:=waysQ_len (t:=t)▸stepsQ_wide;have hwq:wideQ (stepsQ a (waysQ t p n))=(freeQ p n).length:=hws.getD (i:=0) (by rw[stepsQ_len];exact hal);have hs:s.length=(freeQ p n).length:=by
  have hwm:Wide (normM (stepsQ a (waysQ t p n))) (freeQ p n).length:=hwq▸normM_wide _;exact(solveQ_is hwm (by rw[normM_wq _ (by omega),hwq]) h).1
 have hmv:∀ k,k<n→(movedQ (pointQ t p n) (waysQ t p n) s).getD k 0=putQ t p n (fun m=>s.getD m 0) k:=fun k hk=>movedQ_get hs hk
 refine⟨hs,?_,fun hy=>?_⟩
 ·rw[sol_red R hsort hz];intro i hi;rw[hmv i hi];unfold putQ
  congr 1
  refine sumN_congr fun m hm=>?_
  show s.getD m 0*atQ (waysQ t p n) m i=(movedQ (pointQ t p n) (waysQ t p n) s).getD ((freeQ p n).getD m 0) 0*atQ (waysQ t p n) m i
  rw[hmv _ (free_lt hm).1,putQ_free freeQ_nodup hm]
 ·have hy':=(sol_red R hsort hz).1 hy;have hb:=(best (y:=(List.range (freeQ p n).length).map fun m=>y.getD ((freeQ p n).getD m 0) 0) hws hwq hf h (by simp)).1;rw[sq_is hws hs,sq_is hws (by simp)] at hb;have key:∀ (z:List Rat) (σ:List Rat),σ.length=(freeQ p n).length→(∀ k,k<n→z.getD k 0=putQ t p n (fun m=>σ.getD m 0) k)→sqQ n a b z=sqQ (freeQ p n).length (stepsQ a (waysQ t p n)) (leftQ a b (pointQ t p n)) σ:=fun z σ hσ hzz=>by
   unfold sqQ;rw[stepsQ_len];refine sumN_congr fun i hi=>?_
   rw[rest_put hw hi hzz];unfold restQ;rw[dot_sum];rfl
  rw[key _ s hs hmv,key y ((List.range (freeQ p n).length).map fun m=>y.getD ((freeQ p n).getD m 0) 0) (by simp) (fun k hk=>by
   rw[hy' k hk];unfold putQ
   congr 1
   refine sumN_congr fun m hm=>?_
   show y.getD ((freeQ p n).getD m 0) 0*atQ (waysQ t p n) m k=((List.range (freeQ p n).length).map fun m=>y.getD ((freeQ p n).getD m 0) 0).getD m 0*atQ (waysQ t p n) m k
   rw[getD_is (l:=(List.range (freeQ p n).length).map _) (by simpa using hm)];simp)]
  exact hb
end
def Orth (m:Nat) (t:List (List Rat)) (v:List Rat):Prop:=∀ i,i<t.length→dotTo (t.getD i []) v m=0
section
variable {m:Nat} {t:List (List Rat)} {v:List Rat}
theorem orth_swap {a i:Nat} (ha:a<t.length) (hi:i<t.length):Orth m (swapQ t a i) v↔Orth m t v:=by
 constructor
 ·intro h y hy;have h1:=h (if y=i then a else if y=a then i else y) (by rw[swapQ_len];split;exact ha;split;exact hi;exact hy);rw[swapQ_row ha hi] at h1;have e:(if (if y=i then a else if y=a then i else y)=i then a else if (if y=i then a else if y=a then i else y)=a then i else (if y=i then a else if y=a then i else y))=y:=by
   by_cases e1:y=i
   ·subst e1;by_cases e2:a=y <;> simp[e2]
   ·by_cases e2:y=a
    ·subst e2;simp[e1]
    ·simp[e1,e2]
  rwa [e] at h1
 ·intro h y hy;rw[swapQ_len] at hy;rw[swapQ_row ha hi];exact h _ (by split;exact ha;split;exact hi;exact hy)
theorem orth_clear {a j:Nat} (hw:Wide t m) (ha:a<t.length) (h0:atQ t a j≠0):Orth m (clearQ t a j) v↔Orth m t v:=by
 have hp:dotTo (clearR t a j) v m=dotTo (t.getD a []) v m / atQ t a j:=dotTo_div fun k hk=>divR_get (by rw[hw.getD ha];exact hk)
 have hr:∀ i,i<t.length→i≠a→dotTo ((clearQ t a j).getD i []) v m=dotTo (t.getD i []) v m-atQ t i j*(dotTo (t.getD a []) v m / atQ t a j):=fun i hi e=>by
  rw[clearQ_row hi,if_neg e,← hp];exact dotTo_sub fun k hk=>subR_get (by rw[hw.getD hi];exact hk)
 have ha':dotTo ((clearQ t a j).getD a []) v m=dotTo (t.getD a []) v m / atQ t a j:=by rw[clearQ_row ha,if_pos rfl,hp]
 constructor
 ·intro h;have e1:dotTo (t.getD a []) v m=0:=by
   have h1:=h a (by rw[clearQ_len];exact ha);rw[ha'] at h1;have h2:dotTo (t.getD a []) v m / atQ t a j*atQ t a j=0:=by rw[h1,Rat.zero_mul]
   rwa [Rat.div_mul_cancel h0] at h2
  intro i hi;by_cases e:i=a
  ·subst e;exact e1
  ·have h1:=h i (by rw[clearQ_len];exact hi);rw[hr i hi e,e1,Rat.div_def,Rat.zero_mul,Rat.mul_zero] at h1
   grind
 ·intro h i hi;rw[clearQ_len] at hi;by_cases e:i=a
  ·subst e;rw[ha',h i hi,Rat.div_def,Rat.zero_mul]
  ·rw[hr i hi e,h i hi,h a ha,Rat.div_def,Rat.zero_mul,Rat.mul_zero];grind
theorem orth_step {p:List Nat} {j:Nat} (hw:Wide t m):Orth m (stepQ t p j).1 v↔Orth m t v:=by
 unfold stepQ
 split
 ·rename_i hp
  have h1:p.length≤pivQ t j p.length:=pivQ_ge;have h2:p.length<t.length:=by omega
  exact(orth_clear (hw.swap h2 hp) (by rw[swapQ_len];exact h2) (by rw[swapQ_at h2 hp];exact pivQ_ne hp)).trans (orth_swap h2 hp)
 ·exact Iff.rfl
theorem orth_elim (hw:Wide t m):∀ j,Orth m (elimQ t j).1 v↔Orth m t v
 | 0=>Iff.rfl
 | j+1=>(orth_step (Wide.elim hw j)).trans (orth_elim hw j)
end
def colsQ (t:List (List Rat)) (p:List Nat):List (List Rat):=t.map fun r=>p.map fun c=>r.getD c 0
section
variable {t:List (List Rat)} {p:List Nat}
theorem colsQ_len:(colsQ t p).length=t.length:=by simp[colsQ]
theorem colsQ_wide:Wide (colsQ t p) p.length:=by
 intro r hr;obtain⟨x,-,rfl⟩:=List.mem_map.1 hr;simp
theorem colsQ_at {i k:Nat} (hi:i<t.length) (hk:k<p.length):atQ (colsQ t p) i k=atQ t i p[k]:=by
 have h1:(colsQ t p).getD i []=p.map fun c=>(t.getD i []).getD c 0:=by
  rw[getD_is (by rw[colsQ_len];exact hi),getD_is hi];simp[colsQ]
 rw[atQ,h1,getD_is (by simpa using hk),List.getElem_map];rfl
def spread (m:Nat) (p:List Nat) (s:List Rat):List Rat:=(List.range m).map fun c=>if c∈p then s.getD (p.idxOf c) 0 else 0
theorem spread_get {m c:Nat} {s:List Rat} (hc:c<m):(spread m p s).getD c 0=if c∈p then s.getD (p.idxOf c) 0 else 0:=by
 rw[getD_is (by simpa[spread] using hc)];simp[spread]
theorem sum_piv {g:Nat→Rat}:∀ {p:List Nat} {m:Nat},p.Pairwise (· < ·)→(∀ c∈p,c<m)→sumN (fun c=>if c∈p then g c else 0) m=sumN (fun k=>g (p.getD k 0)) p.length:=by
 intro p m hs hl;have h1:=sumN_filter (q:=fun c=>decide (c∈p)) (g:=g) (n:=m);have h2:(List.range m).filter (fun c=>decide (c∈p))=p:=by
  have k1:((List.range m).filter (fun c=>decide (c∈p))).Pairwise (· < ·):=List.pairwise_lt_range.filter _;refine List.Perm.eq_of_pairwise (le:=(· < ·)) (fun a b _ _ h h'=>by omega) k1 hs ?_;refine(List.perm_ext_iff_of_nodup (k1.imp fun h=>Nat.ne_of_lt h) (hs.imp fun h=>Nat.ne_of_lt h)).2 fun c=>?_
  simp only[List.mem_filter,List.mem_range,decide_eq_true_eq]
  exact⟨fun h=>h.2,fun h=>⟨hl c h,h⟩⟩
 rw[h2] at h1;rw[← h1];exact sumN_congr fun c _=>by simp
theorem dot_spread {m i:Nat} {s:List Rat} (hs:p.Pairwise (· < ·)) (hl:∀ c∈p,c<m) (hi:i<t.length):dotTo (t.getD i []) (spread m p s) m=dotTo ((colsQ t p).getD i []) s p.length:=by
 rw[dot_sum,dot_sum,sumN_congr (g:=fun c=>if c∈p then (t.getD i []).getD c 0*s.getD (p.idxOf c) 0 else 0) (fun c hc=>by
  rw[spread_get hc];split;rfl;exact Rat.mul_zero _),sum_piv hs hl]
 refine sumN_congr fun k hk=>?_
 rw[show((colsQ t p).getD i []).getD k 0=atQ (colsQ t p) i k from rfl,colsQ_at hi hk,getD_is hk,List.Nodup.idxOf_getElem (hs.imp fun h=>Nat.ne_of_lt h) k hk];rfl
end
section
variable {t u:List (List Rat)} {p:List Nat} {n m D Z:Nat}
theorem col_made (hw:Wide t m) (hu:u=(elimQ t n).1) (hp:p=(elimQ t n).2) (hnm:n≤m) {c:Nat} (hc:c<m) (hz:∀ i,p.length≤i→i<t.length→atQ u i c=0) :
  ∀ i,i<t.length→dotTo ((colsQ t p).getD i []) ((List.range p.length).map fun k=>atQ u k c) p.length=atQ t i c:=by
 have R:=red_elim hw n hnm;have hsort:=(elimQ_sorted t n).1;have hul:(elimQ t n).1.length=t.length:=elimQ_len t n;rw[← hu,← hp] at R;rw[← hp] at hsort;rw[← hu] at hul;have hlm:∀ x∈p,x<m:=fun x hx=>Nat.lt_of_lt_of_le (R.lt x hx) hnm
 have hτ:∀ k,k<p.length→((List.range p.length).map fun k=>atQ u k c).getD k 0=atQ u k c:=fun k hk=>by rw[getD_is (by simpa using hk)];simp
 -- the difference is orthogonal to the rows of the reduced form
 have hv:Orth m u ((List.range m).map fun x=>(if x=c then 1 else 0)-(spread m p ((List.range p.length).map fun k=>atQ u k c)).getD x 0):=fun i hi=>by
  have h1:dotTo (u.getD i []) ((List.range m).map fun x=>(if x=c then 1 else 0)-(spread m p ((List.range p.length).map fun k=>atQ u k c)).getD x 0) m=atQ u i c-dotTo (u.getD i []) (spread m p ((List.range p.length).map fun k=>atQ u k c)) m:=by
   rw[dot_sum,dot_sum,Rat.sub_eq_add_neg,show ∀ y:Rat,-y=-1*y by intro y;grind,← sumN_mul];have h2:atQ u i c=sumN (fun x=>if x=c then atQ u i x else 0) m:=by rw[sumN_one (c:=c) fun k _ e=>if_neg e,if_pos hc,if_pos rfl]
   rw[h2,← sumN_add];refine sumN_congr fun x hx=>?_
   rw[getD_is (l:=(List.range m).map _) (by simpa using hx)];simp only[List.getElem_map,List.getElem_range]
   rw[show(u.getD i []).getD x 0=atQ u i x from rfl]
   split <;> grind
  rw[h1,dot_spread hsort hlm hi];rcases Nat.lt_or_ge i p.length with h3 | h3
  ·rw[dot_unit (fun k hk=>by rw[show((colsQ u p).getD i []).getD k 0=atQ (colsQ u p) i k from rfl,colsQ_at hi hk];exact R.one k hk i hi),if_pos h3,hτ i h3];grind
  ·rw[dot_nil fun k hk=>by rw[show((colsQ u p).getD i []).getD k 0=atQ (colsQ u p) i k from rfl,colsQ_at hi hk,R.zero i h3 hi _ (R.lt _ (List.getElem_mem _)),Rat.zero_mul],hz i h3 (by omega)];grind
 rw[hu] at hv;have a0:=(orth_elim hw n).1 hv;rw[← hu] at a0;intro i hi;have h4:=a0 i hi;have h1:dotTo (t.getD i []) ((List.range m).map fun x=>(if x=c then 1 else 0)-(spread m p ((List.range p.length).map fun k=>atQ u k c)).getD x 0) m=atQ t i c-dotTo (t.getD i []) (spread m p ((List.range p.length).map fun k=>atQ u k c)) m:=by
  rw[dot_sum,dot_sum,Rat.sub_eq_add_neg,show ∀ y:Rat,-y=-1*y by intro y;grind,← sumN_mul];have h2:atQ t i c=sumN (fun x=>if x=c then atQ t i x else 0) m:=by rw[sumN_one (c:=c) fun k _ e=>if_neg e,if_pos hc,if_pos rfl]
  rw[h2,← sumN_add];refine sumN_congr fun x hx=>?_
  rw[getD_is (l:=(List.range m).map _) (by simpa using hx)];simp only[List.getElem_map,List.getElem_range]
  rw[show(t.getD i []).getD x 0=atQ t i x from rfl]
  split <;> grind
 rw[h1,dot_spread hsort hlm hi] at h4
 grind
theorem cols_free (hw:Wide t m) (hp:p=(elimQ t n).2) (hnm:n≤m) {s:List Rat} (h:∀ i,i<t.length→dotTo ((colsQ t p).getD i []) s p.length=0):∀ k,k<p.length→s.getD k 0=0:=by
 have R:=red_elim hw n hnm;have hsort:=(elimQ_sorted t n).1;rw[← hp] at R hsort;have hlm:∀ x∈p,x<m:=fun x hx=>Nat.lt_of_lt_of_le (R.lt x hx) hnm
 have hv:Orth m (elimQ t n).1 (spread m p s):=(orth_elim hw n).2 fun i hi=>by rw[dot_spread hsort hlm hi];exact h i hi
 intro k hk;have hkt:k<(elimQ t n).1.length:=Nat.lt_of_lt_of_le hk R.len;have h1:=hv k hkt;rw[dot_spread hsort hlm hkt,dot_unit (fun j hj=>by rw[show((colsQ (elimQ t n).1 p).getD k []).getD j 0=atQ (colsQ (elimQ t n).1 p) k j from rfl,colsQ_at hkt hj];exact R.one j hj k hkt),if_pos hk] at h1;exact h1
theorem red_frac (hw:Wide t m) (hu:u=(elimQ t n).1) (hp:p=(elimQ t n).2) (hnm:n≤m) (h4:p.length≤4) (h1:1≤p.length) (hD:0<D) (a0:D≤Z) (ht:∀ i c,FR D Z (atQ t i c)) :
  ∃ D',0<D'∧D'≤24*((t.length*(Z*Z))*((t.length*(Z*Z))*((t.length*(Z*Z))*(t.length*(Z*Z)))))∧∀ c,c<m→(∀ i,p.length≤i→i<t.length→atQ u i c=0)→∀ k,k<p.length →
   FR D' (24*((t.length*(Z*Z))*((t.length*(Z*Z))*((t.length*(Z*Z))*(t.length*(Z*Z)))))) (atQ u k c):=by
 have R:=red_elim hw n hnm;rw[← hp] at R;have htl:1≤t.length:=by have:=R.len;rw[elimQ_len] at this;omega
 obtain⟨P,hP⟩:∃ P,P=colsQ t p:=⟨_,rfl⟩;have hPw:Wide P p.length:=hP▸colsQ_wide;have hPl:P.length=t.length:=by rw[hP,colsQ_len]
 have hPq:wideQ P=p.length:=hPw.getD (i:=0) (by omega);have hGw:Wide (normM P) p.length:=hPq▸normM_wide P;have hGl:(normM P).length=p.length:=by rw[normM_len,hPq]
 have hGq:wideQ (normM P)=p.length:=by rw[normM_wq P (by omega),hPq]
 have hm0:∀ i j,i<p.length→j<p.length→atQ (normM P) i j=atQ (normM P) i j+if i=j then (0:Rat)*([]:List Rat).getD i 0 else 0:=fun i j _ _=>by
  split <;> simp[Rat.add_zero]
 have hPat:∀ i k,i<t.length→k<p.length→FR D Z (atQ P i k):=fun i k hi hk=>by rw[hP,colsQ_at hi hk];exact ht _ _
 -- what solves the normal equations of a column that is made of them
 have only:∀ (b s y:List Rat),(∀ i,i<t.length→dotTo (P.getD i []) s p.length=b.getD i 0)→SolA p.length (normM P) (normV P b) y→∀ k,k<p.length→y.getD k 0=s.getD k 0:=fun b s y hs hy=>by
  have hN:=(solN_iff hPq hGl hm0).1 hy;have he:∀ k,k<p.length→y.getD k 0=s.getD k 0+((List.range p.length).map fun k=>y.getD k 0-s.getD k 0).getD k 0:=fun k hk=>by
   rw[getD_is (l:=(List.range p.length).map _) (by simpa using hk)];simp;grind
  generalize hee:((List.range p.length).map fun k=>y.getD k 0-s.getD k 0)=e at he;have hrest:∀ i,i<t.length→restQ p.length P b y i=dotTo (P.getD i []) e p.length:=fun i hi=>by
   rw[rest_add he,restQ,hs i hi];grind
  have h0:sumN (fun i=>dotTo (P.getD i []) e p.length*dotTo (P.getD i []) e p.length) P.length=0:=by
   have h2:=cross (n:=p.length) (a:=P) (b:=b) (x:=y) (e:=e);rw[sumN_congr (g:=fun i=>dotTo (P.getD i []) e p.length*dotTo (P.getD i []) e p.length) (fun i hi=>by rw[hrest i (by omega)])] at h2;rw[h2];refine sumN_zero fun j hj=>?_
   have h3:=hN j hj;rw[Rat.zero_mul,Rat.zero_mul,Rat.add_zero] at h3;rw[h3,Rat.mul_zero]
  have hz:=sumN_pos_zero (fun k _=>sq_nonneg _) h0;have hfree:=cols_free hw hp hnm (s:=e) (fun i hi=>by rw[← hP];exact sq_zero (hz i (by omega)));intro k hk;rw[he k hk,hfree k hk,Rat.add_zero]
 have solved:∀ (b s:List Rat),(∀ i,i<t.length→dotTo (P.getD i []) s p.length=b.getD i 0)→∃ x,solveQ (normM P) (normV P b)=some x∧∀ k,k<p.length→x.getD k 0=s.getD k 0:=fun b s hs=>by
  have hss:SolA p.length (normM P) (normV P b) s:=(solN_iff hPq hGl hm0).2 fun j hj=>by
   rw[sumN_zero fun i hi=>by rw[restQ,hs i (by omega),Rat.sub_eq_add_neg,Rat.add_neg_cancel,Rat.mul_zero],Rat.zero_mul,Rat.zero_mul,Rat.add_zero]
  cases hx:solveQ (normM P) (normV P b) with
  | some x=>exact⟨x,rfl,only b s x hs (((solveQ_is hGw hGq hx).2 x).2 fun _ _=>rfl)⟩
  | none=>
   obtain⟨y,-,hy,i,hi,hne⟩:=solveQ_not hGw hGq hx hss;exact absurd (only b s y hs hy i hi) hne
 have b0:D*D≤t.length*(Z*Z):=Nat.le_trans (Nat.mul_le_mul a0 a0) (Nat.le_mul_of_pos_left _ htl);have c0:∀ i j,FR (D*D) (t.length*(Z*Z)) (atQ (normM P) i j):=fun i j=>by
  rcases Nat.lt_or_ge i p.length with hi | hi
  ·rcases Nat.lt_or_ge j p.length with hj | hj
   ·rw[normM_at (by omega) (by omega),hPl];exact FR.sum fun r hr=>(hPat r i hr hi).mul (hPat r j hr hj)
   ·have e:atQ (normM P) i j=0:=by
     unfold atQ;rw[List.getD_eq_getElem?_getD,List.getElem?_eq_none (by rw[hGw.getD (by omega)];exact hj),Option.getD_none]
    rw[e];exact(FR.zero _).mono (Nat.zero_le _)
  ·have e:atQ (normM P) i j=0:=by
    unfold atQ;rw[show(normM P).getD i []=[] by rw[List.getD_eq_getElem?_getD,List.getElem?_eq_none (by omega),Option.getD_none]];simp
   rw[e];exact(FR.zero _).mono (Nat.zero_le _)
 have d0:∀ b:List Rat,(∀ i,i<t.length→FR D Z (b.getD i 0))→∀ i,FR (D*D) (t.length*(Z*Z)) ((normV P b).getD i 0):=fun b hb i=>by
  rcases Nat.lt_or_ge i p.length with hi | hi
  ·rw[normV_at (by omega),hPl];exact FR.sum fun r hr=>(hPat r i hr hi).mul (hb r hr)
  ·have e:(normV P b).getD i 0=0:=by
    rw[List.getD_eq_getElem?_getD,List.getElem?_eq_none (by simp[normV,turnQ];omega),Option.getD_none]
   rw[e];exact(FR.zero _).mono (Nat.zero_le _)
 -- one solvable right side gives the denominator
 obtain⟨x0,hx0,-⟩:=solved ((List.range t.length).map fun _=>0) ((List.range p.length).map fun _=>0) (fun i hi=>by
  rw[dot_nil fun k hk=>by rw[getD_is (l:=(List.range p.length).map _) (by simpa using hk)];simp[Rat.mul_zero],getD_is (by simpa using hi)];simp)
 obtain⟨D',hD',hle,hall⟩:=solveQ_frac h4 hGw hGq hGl (Nat.mul_pos hD hD) b0 c0 hx0;refine⟨D',hD',hle,fun c hc hz k hk=>?_⟩;have hmade:=col_made hw hu hp hnm hc hz;rw[← hP] at hmade;obtain⟨x,hx,hxs⟩:=solved ((List.range t.length).map fun i=>atQ t i c) ((List.range p.length).map fun k=>atQ u k c) (fun i hi=>by
  rw[hmade i hi,getD_is (by simpa using hi)];simp)
 have h9:=hall _ x hx (d0 _ fun i hi=>by rw[getD_is (by simpa using hi)];simpa using ht i c) k hk;rw[hxs k hk,getD_is (by simpa using hk)] at h9
 simpa using h9
end
section
variable {n D Z D' Z':Nat} {a:List (List Rat)} {b x:List Rat}
theorem dot_frac {r:List Rat} (hr:∀ j,j<n→FR D Z (r.getD j 0)) (hx:∀ j,j<n→FR D' Z' (x.getD j 0)):FR (D*D') (n*(Z*Z')) (dotTo r x n):=by
 rw[dot_sum];exact FR.sum fun k hk=>(hr k hk).mul (hx k hk)
theorem rest_frac {i:Nat} (ha:∀ j,j<n→FR D Z (atQ a i j)) (hb:FR D Z (b.getD i 0)) (hx:∀ j,j<n→FR D' Z' (x.getD j 0)) (hD:D'≤Z'):FR (D*D') (n*(Z*Z')+Z*Z') (restQ n a b x i):=
 (dot_frac ha hx).sub (hb.up.mono (Nat.mul_le_mul_left _ hD))
theorem measure_frac (ha:∀ i j,FR D Z (atQ a i j)) (hb:∀ i,FR D Z (b.getD i 0)) (hx:∀ j,j<n→FR D' Z' (x.getD j 0)) (hD:D'≤Z') :
  FR ((D*D')*(D*D')) (a.length*((n*(Z*Z')+Z*Z')*(n*(Z*Z')+Z*Z'))) (sqQ n a b x):=
 FR.sum fun i _=>(rest_frac (fun j _=>ha i j) (hb i) hx hD).mul (rest_frac (fun j _=>ha i j) (hb i) hx hD)
theorem normM_frac (_hw:Wide a n) (hn:wideQ a=n) (ha:∀ i j,FR D Z (atQ a i j)):∀ i j,FR (D*D) (a.length*(Z*Z)) (atQ (normM a) i j):=fun i j=>by
 have hGw:Wide (normM a) n:=hn▸normM_wide a;rcases Nat.lt_or_ge i n with hi | hi
 ·rcases Nat.lt_or_ge j n with hj | hj
  ·rw[normM_at (by omega) (by omega)];exact FR.sum fun r _=>(ha r i).mul (ha r j)
  ·have e:atQ (normM a) i j=0:=by
    unfold atQ;rw[List.getD_eq_getElem?_getD,List.getElem?_eq_none (by rw[hGw.getD (by rw[normM_len];omega)];exact hj),Option.getD_none]
   rw[e];exact(FR.zero _).mono (Nat.zero_le _)
 ·have e:atQ (normM a) i j=0:=by
   unfold atQ;rw[show(normM a).getD i []=[] by rw[List.getD_eq_getElem?_getD,List.getElem?_eq_none (by rw[normM_len];omega),Option.getD_none]];simp
  rw[e];exact(FR.zero _).mono (Nat.zero_le _)
theorem normV_frac (hn:wideQ a=n) (ha:∀ i j,FR D Z (atQ a i j)) (hb:∀ i,FR D Z (b.getD i 0)):∀ i,FR (D*D) (a.length*(Z*Z)) ((normV a b).getD i 0):=fun i=>by
 rcases Nat.lt_or_ge i n with hi | hi
 ·rw[normV_at (by omega)];exact FR.sum fun r _=>(ha r i).mul (hb r)
 ·have e:(normV a b).getD i 0=0:=by
   rw[List.getD_eq_getElem?_getD,List.getElem?_eq_none (by simp[normV,turnQ];omega),Option.getD_none]
  rw[e];exact(FR.zero _).mono (Nat.zero_le _)
theorem draft_frac {x:Int} {d:Nat} (hx:x.natAbs≤49) (hd:0<d) (hd6:d≤6):FR 60 2940 (mkRat x d):=by
 have e:mkRat x d*((60:Nat):Rat)=((x*(60 / d:Nat):Int):Rat):=by
  have hdv:d*(60 / d)=60:=by
   rcases(show d=1∨d=2∨d=3∨d=4∨d=5∨d=6 by omega) with rfl | rfl | rfl | rfl | rfl | rfl <;> rfl
  rw[Rat.mkRat_eq_div];have hdq:(d:Rat)≠0:=by
   intro e';have:d=0:=by exact_mod_cast e'
   omega
  have h60:((60:Nat):Rat)=(d:Rat)*((60 / d:Nat):Rat):=by rw[← Rat.natCast_mul,hdv]
  rw[h60,Rat.intCast_mul,Rat.intCast_natCast,← Rat.mul_assoc,Rat.div_mul_cancel hdq]
 refine⟨_,e,?_⟩;rw[Int.natAbs_mul,Int.natAbs_natCast];have h1:60 / d≤60:=Nat.div_le_self _ _;exact Nat.mul_le_mul hx h1
end
end Go.Proofs.YtdigbofiebfkeaaGreatDoor
