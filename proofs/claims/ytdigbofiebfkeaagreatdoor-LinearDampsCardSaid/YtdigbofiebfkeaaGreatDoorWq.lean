/- Plain: the law LinearDamps: the damped normal equations of drafts, their solutions, the damped sums: sizes and the least one. -/
import Derived.Test.YtdigbofiebfkeaaGreatDoorWm
import Derived.Test.YtdigbofiebfkeaaGreatDoorLnz
namespace Go.Proofs.YtdigbofiebfkeaaGreatDoor
open Go Go.RowKit Dig
def absR (q:Rat):Rat:=if q.num<0 then -q else q
theorem absR_nat (q:Rat):(absR q).num.natAbs=q.num.natAbs:=by
  unfold absR;split
  · rw[Rat.neg_num,Int.natAbs_neg]
  · rfl
theorem absR_den (q:Rat):(absR q).den=q.den:=by
  unfold absR;split
  · rw[Rat.neg_den]
  · rfl
theorem absR_num (q:Rat):0≤(absR q).num:=by
  unfold absR;split
  · rw[Rat.neg_num];omega
  · omega
theorem absR_nn (q:Rat):0≤absR q:=Rat.num_nonneg.1 (absR_num q)
theorem absR_ql {a b:Nat} {q:Rat} (h:QL a b q):QL a b (absR q):=by unfold QL at h ⊢;rw[absR_nat,absR_den];exact h
theorem absR_frac {D Z:Nat} {q:Rat} (h:FR D Z q):FR D Z (absR q):=by
  unfold absR;split
  · exact h.neg
  · exact h
theorem QV.abs {w:World} {B:Nat} {n m:Bool} {A A':Option Addr} {l c l' c':Nat} {q:Rat} (h:QV w B (.agg #[.bool n,.slice A l c,.bool m,.slice A' l' c']) q):QV w B (.agg #[.bool false,.slice A l c,.bool m,.slice A' l' c']) (absR q):=by
  obtain⟨h1,h2,-,rfl⟩:=h.is;exact⟨false,A,l,c,A',l',c',rfl,by rw[absR_nat];exact h1,by rw[absR_den];exact h2,(decide_eq_false (by have:=absR_num q;omega)).symm⟩
def absL (l:List Rat):List Rat:=l.map absR
theorem absL_len (l:List Rat):(absL l).length=l.length:=by simp[absL]
theorem absL_at (l:List Rat) (i:Nat):(absL l).getD i 0=absR (l.getD i 0):=by
  unfold absL;simp only[List.getD_eq_getElem?_getD,List.getElem?_map]
  cases l[i]? <;> rfl
theorem absL_mem {l:List Rat} {q:Rat} (h:q∈absL l):∃ r∈l,absR r=q:=by unfold absL at h;exact List.mem_map.1 h
section
variable {N D N2 D2:List Int} {f g e k n:Nat} {x y:List Rat}
def dampF (N2 D2:List Int) (g:Nat):Rat:=absR (numD N2 D2 g)
def dampD (N D:List Int) (e k:Nat):List Rat:=absL (listD N D e k)
theorem dampF_frac:FR 60 2940 (dampF N2 D2 g):=absR_frac (numD_frac g)
theorem dampF_ql:QL 1 1 (dampF N2 D2 g):=absR_ql (numD_ql g)
theorem dampD_len:(dampD N D e k).length=k:=by unfold dampD;rw[absL_len,listD_len]
theorem dampD_frac (i:Nat):FR 60 2940 ((dampD N D e k).getD i 0):=by unfold dampD;rw[absL_at];exact absR_frac (listD_frac e k i)
theorem dampD_ql {q:Rat} (h:q∈dampD N D e k):QL 1 1 q:=by
  obtain⟨r,hr,rfl⟩:=absL_mem h;exact absR_ql (listD_ql hr)
theorem dampD_num {q:Rat} (h:q∈dampD N D e k):0≤q.num:=by
  obtain⟨r,-,rfl⟩:=absL_mem h;exact absR_num r
theorem dampD_nn (i:Nat):0≤(dampD N D e k).getD i 0:=by unfold dampD;rw[absL_at];exact absR_nn _
theorem dampD_ok (h1:1≤k) (h2:k≤12):okV (dampD N D e k):=⟨fun _ h=>(dampD_ql h).up (by decide),by rw[dampD_len];exact h1,by rw[dampD_len];exact h2⟩
abbrev dmp (N D N2 D2:List Int) (g e k n:Nat):List (List Rat):=dampQ (normM (rowsD N D k n)) (dampF N2 D2 g) (dampD N D e k)
theorem dmp_len (hn:1≤n):(dmp N D N2 D2 g e k n).length=k:=by rw[dampQ_len,best_len hn]
theorem dmp_wide (hn:1≤n):Wide (dmp N D N2 D2 g e k n) k:=dampQ_wide (best_wide hn)
theorem dmp_wq (hk:1≤k) (hn:1≤n):wideQ (dmp N D N2 D2 g e k n)=k:=(dmp_wide hn).getD (i:=0) (by rw[dmp_len hn];exact hk)
theorem out_at {M:List (List Rat)} {i j:Nat} (hw:Wide M k) (h:¬(i<M.length∧j<k)):atQ M i j=0:=by
  unfold atQ;by_cases hi:i<M.length
  · have hl:(M.getD i []).length=k:=hw.getD hi
    rw[List.getD_eq_getElem?_getD,List.getElem?_eq_none (by omega)];rfl
  · have e:M.getD i []=[]:=by rw[List.getD_eq_getElem?_getD,List.getElem?_eq_none (by omega)];rfl
    rw[e];rfl
theorem dmp_fr (hn:1≤n) (hn6:n≤6):∀ i j,FR 3600 60505200 (atQ (dmp N D N2 D2 g e k n) i j):=fun i j=>by
  by_cases h:i<k∧j<k
  · rw[dampQ_at (best_wide hn) (by rw[best_len hn];exact h.1) h.2 h.1]
    refine FR.mono (FR.add (normM_fr hn hn6 i j) (Z':=8643600) ?_) (by decide)
    split
    · exact FR.mul (D:=60) (D':=60) (Z:=2940) (Z':=2940) dampF_frac (dampD_frac i)
    · exact zero_frac
  · rw[out_at (dmp_wide hn) (by rw[dmp_len hn];exact h)];exact zero_frac
def bigY:Nat:=321648881159351708811878400000000
theorem bigY_le:24*(60505200*(60505200*(60505200*60505200)))≤bigY:=by decide +kernel
theorem damp_ans (hk:1≤k) (hk4:k≤4) (hn:1≤n) (hn6:n≤6) {l:Rat} (hl:QL 4 4 l) (hl0:0≤l.num):dampedA ((rowsD N D k n).map (List.map qx)) ((listD N D f n).map qx) ((dampD N D e k).map qx) (qx l)=toldO (solveQ (dampQ (normM (rowsD N D k n)) l (dampD N D e k)) (normV (rowsD N D k n) (listD N D f n))):=by
  rw[dampedA_q (okW_rowsD hk (by omega) hn (by omega)) (okV_listD hn (by omega)) (dampD_ok hk (by omega)) hl,if_pos ⟨by rw[listD_len,rowsD_len],by rw[dampD_len,rowsD_wq hn],hl0,fun q hq=>dampD_num hq⟩]
theorem dampQ_zero {m:List (List Rat)} {d:List Rat}:dampQ m 0 d=m:=by
  unfold dampQ;refine List.ext_getElem (by simp) fun i h1 h2=>?_
  rw[List.getElem_mapIdx,Rat.zero_mul,Rat.add_zero];refine List.ext_getElem (by simp) fun j h3 h4=>?_
  rw[List.getElem_set]
  split
  · next h=>subst h;exact getD_is h4
  · rfl
theorem damp_zero (hk:1≤k) (hk4:k≤4) (hn:1≤n) (hn6:n≤6):dampedA ((rowsD N D k n).map (List.map qx)) ((listD N D f n).map qx) ((dampD N D e k).map qx) (qx 0)=leastA ((rowsD N D k n).map (List.map qx)) ((listD N D f n).map qx):=by
  rw[damp_ans hk hk4 hn hn6 ((tiny_ql (by decide +kernel)).up (by decide)) (by decide),dampQ_zero,leastA_q (okW_rowsD hk (by omega) hn (by omega)) (okV_listD hn (by omega)),if_pos (by rw[listD_len,rowsD_len])]
theorem dampF_num:0≤(dampF N2 D2 g).num:=absR_num _
theorem damp_none (hk:1≤k) (hk4:k≤4) (hn:1≤n) (hn6:n≤6) (h:solveQ (dmp N D N2 D2 g e k n) (normV (rowsD N D k n) (listD N D f n))=none) :
    dampedA ((rowsD N D k n).map (List.map qx)) ((listD N D f n).map qx) ((dampD N D e k).map qx) (qx (dampF N2 D2 g))=(none,7):=by
  rw[damp_ans hk hk4 hn hn6 (dampF_ql.up (by decide)) dampF_num,h];rfl
theorem damp_is (hk:1≤k) (a0:k≤4) (hn:1≤n) (hn6:n≤6) (h:solveQ (dmp N D N2 D2 g e k n) (normV (rowsD N D k n) (listD N D f n))=some x) :
    x.length=k∧(∀ q∈x,QL 4 4 q)∧∃ D',0<D'∧D'≤bigY∧∀ j,j<k→FR D' bigY (x.getD j 0):=by
  have hb:bp 4=1000000000000000000000000000000000000:=by decide +kernel
  have hl:=(solveQ_is (dmp_wide hn) (dmp_wq hk hn) h).1;have hv:∀ i,FR 3600 60505200 ((normV (rowsD N D k n) (listD N D f n)).getD i 0):=fun i=>(normV_fr hn hn6 i).mono (by decide)
  refine⟨hl,fun q hq=>?_,?_⟩
  · obtain⟨i,hi,rfl⟩:=List.mem_iff_getElem.1 hq
    have:=solveQ_size (D:=3600) (Z:=60505200) (k:=4) a0 (dmp_wide hn) (dmp_wq hk hn) (dmp_len hn) (by decide) (by decide) (dmp_fr hn hn6) hv h (by rw[hb];decide +kernel) i (by omega)
    rwa [getD_is hi] at this
  · obtain⟨D',h1,h2,h3⟩:=solveQ_frac (D:=3600) (Z:=60505200) a0 (dmp_wide hn) (dmp_wq hk hn) (dmp_len hn) (by decide) (by decide) (dmp_fr hn hn6) h
    exact⟨D',h1,Nat.le_trans h2 bigY_le,fun j hj=>(h3 _ _ h hv j hj).mono bigY_le⟩
theorem damp_some (hk:1≤k) (a0:k≤4) (hn:1≤n) (hn6:n≤6) (h:solveQ (dmp N D N2 D2 g e k n) (normV (rowsD N D k n) (listD N D f n))=some x) :
    dampedA ((rowsD N D k n).map (List.map qx)) ((listD N D f n).map qx) ((dampD N D e k).map qx) (qx (dampF N2 D2 g))=(some x,0):=by
  rw[damp_ans hk a0 hn hn6 (dampF_ql.up (by decide)) dampF_num,h];exact if_pos fun q hq=>by have h2:=((damp_is hk a0 hn hn6 h).2.1 q hq).up (show 4≤600 by decide);unfold QL at h2;exact h2
theorem damp_meas {D':Nat} (hk:1≤k) (hk4:k≤4) (hn:1≤n) (hn6:n≤6) (hl:y.length=k) (hy:∀ q∈y,QL 4 4 q) (hD:0<D') (a0:D'≤bigY) (hx:∀ j,j<k→FR D' bigY (y.getD j 0)) :
    measureA ((rowsD N D k n).map (List.map qx)) ((listD N D f n).map qx) (y.map qx)=(some (squaresQ (rowsD N D k n) (listD N D f n) y),0)∧QL 10 10 (squaresQ (rowsD N D k n) (listD N D f n) y):=by
  have key:QL 10 10 (squaresQ (rowsD N D k n) (listD N D f n) y):=by
    rw[sq_is (rowsD_wide k n) hl];have h:=measure_frac (a:=rowsD N D k n) (b:=listD N D f n) (rowsD_frac k n) (listD_frac f n) hx a0;rw[rowsD_len] at h;have hc:k*(2940*bigY)+2940*bigY≤14700*bigY:=by unfold bigY;omega
    have h2:n*((k*(2940*bigY)+2940*bigY)*(k*(2940*bigY)+2940*bigY))≤6*(14700*bigY*(14700*bigY)):=Nat.mul_le_mul hn6 (Nat.mul_le_mul hc hc);have h3:(60*D')*(60*D')≤(60*bigY)*(60*bigY):=Nat.mul_le_mul (Nat.mul_le_mul_left _ a0) (Nat.mul_le_mul_left _ a0);exact FR.ql (k:=10) (Nat.mul_pos (by omega) (by omega)) (h.mono h2) (by decide +kernel) (Nat.lt_of_le_of_lt h3 (by decide +kernel))
  refine⟨?_,key⟩;rw[measureA_q (okW_rowsD hk (by omega) hn (by omega)) (okV_listD hn (by omega)) (fun q hq=>(hy q hq).up (by decide)),if_pos ⟨by rw[listD_len,rowsD_len],by rw[hl,rowsD_wq hn]⟩];exact toldQ_lit rfl (key.up (by decide))
def sqD (d y:List Rat) (k:Nat):List Rat:=(List.range k).map fun j=>y.getD j 0*y.getD j 0*d.getD j 0
theorem sqD_len {d:List Rat}:(sqD d y k).length=k:=by simp[sqD]
theorem sqD_succ {d:List Rat}:sqD d y (k+1)=sqD d y k++[y.getD k 0*y.getD k 0*d.getD k 0]:=by unfold sqD;rw[List.range_succ,List.map_append];rfl
theorem sqD_at {d:List Rat} {j:Nat} (h:j<k):(sqD d y k).getD j 0=y.getD j 0*y.getD j 0*d.getD j 0:=by
  rw[getD_is (by rw[sqD_len];exact h)];simp[sqD]
theorem rep_at {l:Rat} {j:Nat} (h:j<k):(List.replicate k l).getD j 0=l:=by rw[getD_is (by simpa using h)];simp
theorem sqD_dot {d:List Rat} {l:Rat}:dotTo (sqD d y k) (List.replicate k l) k=l*sumN (fun j=>d.getD j 0*(y.getD j 0*y.getD j 0)) k:=by
  rw[dot_sum,← sumN_mul];exact sumN_congr fun j hj=>by rw[sqD_at hj,rep_at hj];grind
section
variable {d:List Rat} {l:Rat}
theorem getD_ql {a:Nat} {z:List Rat} (h:∀ q∈z,QL a a q) {j:Nat} (hj:j<z.length):QL a a (z.getD j 0):=by rw[getD_is hj];exact h _ (List.getElem_mem hj)
theorem sqD_ql {j:Nat} (hy:∀ q∈y,QL 4 4 q) (hd:∀ q∈d,QL 1 1 q) (h1:j<y.length) (h2:j<d.length):QL 8 8 (y.getD j 0*y.getD j 0)∧QL 9 9 (y.getD j 0*y.getD j 0*d.getD j 0):=
  ⟨QL.mul (getD_ql hy h1) (getD_ql hy h1),QL.mul (QL.mul (getD_ql hy h1) (getD_ql hy h1)) (getD_ql hd h2)⟩
theorem dot_step (r s:List Rat) (m:Nat):dotTo r s (m+1)=dotTo r s m+r.getD m 0*s.getD m 0:=rfl
theorem sqD_part {m:Nat} (hk4:k≤4) (hly:y.length=k) (hld:d.length=k) (hy:∀ q∈y,QL 4 4 q) (hd:∀ q∈d,QL 1 1 q) (hl:QL 1 1 l) (hm:m≤k):QL (14*m*m+14*m+1) (10*m+1) (dotTo (sqD d y k) (List.replicate k l) m):=by
  induction m with
  | zero=>exact QL.zero1 _ _ (by omega)
  | succ m ih=>
    have h1:=ih (by omega);rw[dot_step,sqD_at (by omega),rep_at (by omega)];have h2:QL 10 10 (y.getD m 0*y.getD m 0*d.getD m 0*l):=QL.mul (sqD_ql hy hd (by omega) (by omega)).2 hl;refine(QL.add h1 h2).mono ?_ (by omega);have hm4:m=0∨m=1∨m=2∨m=3:=by omega
    rcases hm4 with rfl | rfl | rfl | rfl <;> decide
theorem sqD_times (a0:k≤4) (hly:y.length=k) (hld:d.length=k) (hy:∀ q∈y,QL 4 4 q) (hd:∀ q∈d,QL 1 1 q) (hl:QL 1 1 l):TimesOK (sqD d y k) (List.replicate k l):=by
  intro m hm;rw[sqD_len,List.length_replicate,Nat.min_self] at hm;have up:∀ {m:Nat},m≤k→QL 600 600 (dotTo (sqD d y k) (List.replicate k l) m):=fun {m} hm=>by
    have h:=sqD_part a0 hly hld hy hd hl hm;have hm4:m=0∨m=1∨m=2∨m=3∨m=4:=by omega
    rcases hm4 with rfl | rfl | rfl | rfl | rfl <;> exact h.mono (by decide) (by decide)
  refine⟨?_,?_,?_,up (by omega),up (by omega)⟩
  · rw[sqD_at hm];exact(sqD_ql hy hd (by omega) (by omega)).2.up (by decide)
  · rw[rep_at hm];exact hl.up (by decide)
  · rw[sqD_at hm,rep_at hm];exact(QL.mul (sqD_ql hy hd (by omega) (by omega)).2 hl).up (by decide)
theorem sqD_all (a0:k≤4) (hly:y.length=k) (hld:d.length=k) (hy:∀ q∈y,QL 4 4 q) (hd:∀ q∈d,QL 1 1 q) (hl:QL 1 1 l):QL 300 50 (dotTo (sqD d y k) (List.replicate k l) k):=by
  have h:=sqD_part a0 hly hld hy hd hl (Nat.le_refl k);have hm4:k=0∨k=1∨k=2∨k=3∨k=4:=by omega
  rcases hm4 with rfl | rfl | rfl | rfl | rfl <;> exact h.mono (by decide) (by decide)
end
def dampAll (N D N2 D2:List Int) (f g e k n:Nat) (y:List Rat):Rat:=squaresQ (rowsD N D k n) (listD N D f n) y+dotTo (sqD (dampD N D e k) y k) (List.replicate k (dampF N2 D2 g)) k
theorem dampAll_ql (hk4:k≤4) (hl:y.length=k) (hy:∀ q∈y,QL 4 4 q) (hm:QL 10 10 (squaresQ (rowsD N D k n) (listD N D f n) y)):QL 600 600 (dampAll N D N2 D2 f g e k n y):=
  (QL.add hm (sqD_all hk4 hl dampD_len hy (fun _ h=>dampD_ql h) dampF_ql)).mono (by decide) (by decide)
theorem dampAll_le (hk:1≤k) (hn:1≤n) (hx:x.length=k) (hy:y.length=k) (h:solveQ (dmp N D N2 D2 g e k n) (normV (rowsD N D k n) (listD N D f n))=some x):dampAll N D N2 D2 f g e k n x≤dampAll N D N2 D2 f g e k n y:=by
  unfold dampAll;rw[sqD_dot,sqD_dot,sq_is (rowsD_wide k n) hx,sq_is (rowsD_wide k n) hy];exact damped_least (rowsD_wq hn) hk (absR_nn _) (fun i _=>dampD_nn i) h
end
end Go.Proofs.YtdigbofiebfkeaaGreatDoor
