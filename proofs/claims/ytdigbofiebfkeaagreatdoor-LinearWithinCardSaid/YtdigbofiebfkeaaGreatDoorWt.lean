/- Plain: the law LinearWithin: what Bound answers at drafts: sizes, its equations, the least sum. -/
import Derived.Test.YtdigbofiebfkeaaGreatDoorWq
import Derived.Test.YtdigbofiebfkeaaGreatDoorLnz
namespace Go.Proofs.YtdigbofiebfkeaaGreatDoor
open Go Go.RowKit Dig
def wA:Nat:=24*(34574400*(34574400*(34574400*34574400)))
def wB:Nat:=14700*wA
def wC:Nat:=6*(wB*wB)
def wD:Nat:=24*(wC*(wC*(wC*wC)))
def wX:Nat:=5*(wD*wA)
theorem FR.one {D Z:Nat} (h:D≤Z):FR D Z 1:=⟨(D:Int),by rw[Rat.one_mul];rfl,by simpa using h⟩
theorem solv_zero {u:List (List Rat)} {p:List Nat} {k:Nat} (h:solvQ (u,p) k=true):∀ i,p.length≤i→i<u.length→atQ u i k=0:=by
  unfold solvQ at h;have h1:pivQ u k p.length=u.length:=by simpa using h
  intro i hi hiu;refine(pivF_spec u k (u.length-p.length) p.length).2.2.1 i hi ?_
  show i<pivQ u k p.length
  omega
theorem solv_not {u:List (List Rat)} {p:List Nat} {k:Nat} (h:solvQ (u,p) k=false) (hl:p.length≤u.length):∃ i,p.length≤i∧i<u.length∧atQ u i k≠0:=by
  unfold solvQ at h;have h1:pivQ u k p.length≠u.length:=by simpa using h
  have h2:=pivQ_le (t:=u) (j:=k) hl;exact⟨_,pivQ_ge,by omega,pivQ_ne (by omega)⟩
section
variable {N D N2 D2:List Int} {f g k n m:Nat} {x:List Rat}
def redT (N2 D2:List Int) (g k m:Nat):List (List Rat):=(elimQ (withQ (rowsD N2 D2 k m) (listD N2 D2 g m)) k).1
def redP (N2 D2:List Int) (g k m:Nat):List Nat:=(elimQ (withQ (rowsD N2 D2 k m) (listD N2 D2 g m)) k).2
theorem wt_len:(withQ (rowsD N2 D2 k m) (listD N2 D2 g m)).length=m:=by rw[withQ_len,rowsD_len]
theorem wt_wide:Wide (withQ (rowsD N2 D2 k m) (listD N2 D2 g m)) (k+1):=withQ_wide (rowsD_wide k m)
theorem redT_len:(redT N2 D2 g k m).length=m:=by unfold redT;rw[elimQ_len,wt_len]
theorem redR:Red (redT N2 D2 g k m) (redP N2 D2 g k m) k:=red_elim wt_wide k (by omega)
theorem redS:(redP N2 D2 g k m).Pairwise (· < ·):=(elimQ_sorted _ k).1
theorem redP_le:(redP N2 D2 g k m).length≤m:=by have:=(redR (N2:=N2) (D2:=D2) (g:=g) (k:=k) (m:=m)).len;rwa [redT_len] at this
theorem wt_frac (i c:Nat):FR 60 2940 (atQ (withQ (rowsD N2 D2 k m) (listD N2 D2 g m)) i c):=by
  rcases Nat.lt_or_ge i m with hi | hi
  · rcases Nat.lt_trichotomy c k with hc | hc | hc
    · rw[withQ_at (rowsD_wide k m) (by rw[rowsD_len];exact hi) hc];exact rowsD_frac k m i c
    · subst hc
      have hl:((rowsD N2 D2 c m).getD i []).length=c:=(rowsD_wide c m).getD (by rw[rowsD_len];exact hi);unfold atQ;rw[withQ_row (by rw[rowsD_len];exact hi),List.getD_eq_getElem?_getD,List.getElem?_append_right (by omega),hl,Nat.sub_self];exact listD_frac g m i
    · rw[out_at (k:=k+1) wt_wide (by omega)];exact zero_frac
  · rw[out_at (k:=k+1) wt_wide (by rw[wt_len];omega)];exact zero_frac
theorem red_fr (hm:1≤m) (hm4:m≤4) (hz:∀ i,(redP N2 D2 g k m).length≤i→i<m→atQ (redT N2 D2 g k m) i k=0) :
    ∃ D',0<D'∧D'≤wA∧∀ c,c≤k→∀ j,j<(redP N2 D2 g k m).length→FR D' wA (atQ (redT N2 D2 g k m) j c):=by
  by_cases h0:(redP N2 D2 g k m).length=0
  · exact⟨1,by decide,by unfold wA;decide,fun c _ j hj=>by omega⟩
  · obtain⟨D',h1,h2,h3⟩:=red_frac (D:=60) (Z:=2940) (n:=k) (m:=k+1) (wt_wide (N2:=N2) (D2:=D2) (g:=g) (k:=k) (m:=m)) rfl rfl (by omega) (Nat.le_trans (redP_le (N2:=N2) (D2:=D2) (g:=g) (k:=k) (m:=m)) hm4) (by show 1≤(redP N2 D2 g k m).length;omega) (by decide) (by decide) wt_frac
    rw[wt_len] at h2 h3;have hb:m*(2940*2940)≤34574400:=by omega
    have hB:24*((m*(2940*2940))*((m*(2940*2940))*((m*(2940*2940))*(m*(2940*2940)))))≤wA:=by
      unfold wA;exact Nat.mul_le_mul_left _ (Nat.mul_le_mul hb (Nat.mul_le_mul hb (Nat.mul_le_mul hb hb)))
    refine⟨D',h1,Nat.le_trans h2 hB,fun c hc j hj=>(h3 c (by omega) (fun i hi him=>?_) j hj).mono hB⟩;rcases Nat.lt_or_ge c k with h | h
    · exact(redR (N2:=N2) (D2:=D2) (g:=g) (k:=k) (m:=m)).zero i hi (by rw[redT_len];exact him) c h
    · obtain rfl:c=k:=by omega
      exact hz i hi him
theorem idx_lt {p:List Nat} {i:Nat} (h:i∈p):p.idxOf i<p.length:=List.idxOf_lt_length_iff.2 h
section
variable {t:List (List Rat)} {p:List Nat} {E:Nat}
theorem point_fr (_hE:0<E) (h:∀ c,c≤k→∀ j,j<p.length→FR E wA (atQ t j c)) (i:Nat):FR E wA ((pointQ t p k).getD i 0):=by
  by_cases hi:i<k
  · rw[pointQ_get hi];split
    · next hp=>exact h k (Nat.le_refl _) _ (idx_lt hp)
    · exact zero_frac
  · rw[List.getD_eq_getElem?_getD,List.getElem?_eq_none (by rw[pointQ_len];omega)];exact zero_frac
theorem ways_fr (hEA:E≤wA) (h:∀ c,c≤k→∀ j,j<p.length→FR E wA (atQ t j c)) {m i:Nat} (hm:m<(freeQ p k).length) (hi:i<k):FR E wA (atQ (waysQ t p k) m i):=by
  rw[waysQ_get hm hi]
  split
  · exact FR.one hEA
  · split
    · next hp=>exact(h _ (Nat.le_of_lt (free_lt hm).1) _ (idx_lt hp)).neg
    · exact zero_frac
end
theorem count_lt {p:List Nat}:p.countP (fun x=>decide (x<k))+(if k∈p then 1 else 0)≤p.countP (fun x=>decide (x<k+1)):=by
  induction p with
  | nil=>simp
  | cons a p ih=>
    rw[List.countP_cons,List.countP_cons];by_cases h1:k=a
    · subst h1
      have h7:p.countP (fun x=>decide (x<k))≤p.countP (fun x=>decide (x<k+1)):=by split at ih <;> omega
      rw[decide_eq_false (show ¬ k<k by omega),decide_eq_true (show k<k+1 by omega),if_pos (List.mem_cons_self ..)];simp only[Bool.false_eq_true,if_false,if_true]
      omega
    · rw[show(if k∈a :: p then 1 else 0)=(if k∈p then 1 else 0) by simp[h1]]
      by_cases h6:a<k
      · rw[decide_eq_true h6,decide_eq_true (show a<k+1 by omega)]
        simp only[if_true]
        omega
      · rw[decide_eq_false h6,decide_eq_false (show ¬ a<k+1 by omega)]
        simp only[Bool.false_eq_true,if_false]
        omega
theorem free_many {p:List Nat}:k≤(freeQ p k).length+p.length:=by
  have h:∀ k,k≤(freeQ p k).length+p.countP (fun x=>decide (x<k)):=fun k=>by
    induction k with
    | zero=>omega
    | succ k ih=>
      have hc:=count_lt (k:=k) (p:=p);have hf:(freeQ p (k+1)).length=(freeQ p k).length+(if k∈p then 0 else 1):=by
        unfold freeQ;rw[List.range_succ,List.filter_append,List.length_append];by_cases h:k∈p <;> simp[h]
      split at hf <;> split at hc <;> first | omega | contradiction
  have:=h k;have h2:=List.countP_le_length (p:=fun x=>decide (x<k)) (l:=p)
  omega
theorem free_le {p:List Nat}:(freeQ p k).length≤k:=by unfold freeQ;exact Nat.le_trans (List.length_filter_le _ _) (by simp)
theorem moved_fr {t:List (List Rat)} {p:List Nat} {E:Nat} {s:List Rat} (hE:0<E) (b0:E≤wA) (h:∀ c,c≤k→∀ j,j<p.length→FR E wA (atQ t j c)) (a0:k≤4) (hn:1≤n) (hn6:n≤6) (hf:1≤(freeQ p k).length)
    (hs:solveQ (normM (stepsQ (rowsD N D k n) (waysQ t p k))) (normV (stepsQ (rowsD N D k n) (waysQ t p k)) (leftQ (rowsD N D k n) (listD N D f n) (pointQ t p k)))=some s) :
    ∃ D',0<D'∧D'≤wX∧∀ j,j<k→FR D' wX ((movedQ (pointQ t p k) (waysQ t p k) s).getD j 0):=by
  obtain⟨r,hr⟩:∃ r,r=(freeQ p k).length:=⟨_,rfl⟩;have hr4:r≤4:=by have:=free_le (k:=k) (p:=p);omega
  have hws:Wide (stepsQ (rowsD N D k n) (waysQ t p k)) r:=by rw[hr,← waysQ_len (t:=t)];exact stepsQ_wide
  have hwl:(stepsQ (rowsD N D k n) (waysQ t p k)).length=n:=by rw[stepsQ_len,rowsD_len]
  have hwq:wideQ (stepsQ (rowsD N D k n) (waysQ t p k))=r:=hws.getD (i:=0) (by omega);have hE60:60*E≤wB:=by unfold wB;omega
  have hsf:∀ i j,FR (60*E) wB (atQ (stepsQ (rowsD N D k n) (waysQ t p k)) i j):=fun i j=>by
    by_cases hij:i<n∧j<r
    · rw[stepsQ_at (rowsD_wide k n) (by rw[rowsD_len];exact hij.1) (by rw[waysQ_len];omega)]
      refine(dot_frac (fun c _=>rowsD_frac (N:=N) (D:=D) k n i c) (fun c hc=>ways_fr b0 h (by omega) hc)).mono ?_;have h1:k*(2940*wA)≤4*(2940*wA):=Nat.mul_le_mul_right _ a0;unfold wB;omega
    · rw[out_at hws (by rw[hwl];exact hij)];exact zero_frac
  have hlf:∀ i,FR (60*E) wB ((leftQ (rowsD N D k n) (listD N D f n) (pointQ t p k)).getD i 0):=fun i=>by
    by_cases hi:i<n
    · rw[leftQ_get (rowsD_wide k n) (by rw[rowsD_len];exact hi)]
      refine((FR.up (D':=E) (listD_frac (N:=N) (D:=D) f n i)).sub (dot_frac (fun c _=>rowsD_frac (N:=N) (D:=D) k n i c) (fun c _=>point_fr hE h c))).mono ?_;have h1:k*(2940*wA)≤4*(2940*wA):=Nat.mul_le_mul_right _ a0;have h2:2940*E≤2940*wA:=Nat.mul_le_mul_left _ b0;unfold wB;omega
    · rw[List.getD_eq_getElem?_getD,List.getElem?_eq_none (by simp[leftQ,rowsD_len];omega)];exact zero_frac
  have hnn:n*(wB*wB)≤wC:=Nat.mul_le_mul_right _ hn6;have hM:∀ i j,FR ((60*E)*(60*E)) wC (atQ (normM (stepsQ (rowsD N D k n) (waysQ t p k))) i j):=fun i j=>by
    have h1:=normM_frac hws hwq hsf i j;rw[hwl] at h1;exact h1.mono hnn
  have hV:∀ i,FR ((60*E)*(60*E)) wC ((normV (stepsQ (rowsD N D k n) (waysQ t p k)) (leftQ (rowsD N D k n) (listD N D f n) (pointQ t p k))).getD i 0):=fun i=>by
    have h1:=normV_frac hwq hsf hlf i;rw[hwl] at h1;exact h1.mono hnn
  have hwm:Wide (normM (stepsQ (rowsD N D k n) (waysQ t p k))) r:=hwq▸normM_wide _;have c0:(60*E)*(60*E)≤wC:=Nat.le_trans (Nat.mul_le_mul hE60 hE60) (by unfold wC;omega);have hml:(normM (stepsQ (rowsD N D k n) (waysQ t p k))).length=r:=by rw[normM_len,hwq]
  have hmq:wideQ (normM (stepsQ (rowsD N D k n) (waysQ t p k)))=r:=by rw[normM_wq _ (by omega),hwq]
  obtain⟨D',h1,h2,h3⟩:=solveQ_frac hr4 hwm hmq hml (Nat.mul_pos (by omega) (by omega)) c0 hM hs;have hsx:=h3 _ _ hs hV;have hsl:s.length=r:=(solveQ_is hwm hmq hs).1;refine⟨E*D',Nat.mul_pos hE h1,?_,fun j hj=>?_⟩
  · have h4:E*D'≤wA*wD:=Nat.mul_le_mul b0 h2
    unfold wX;rw[Nat.mul_comm wA wD] at h4;omega
  · rw[movedQ_get (by rw[hsl,hr]) hj,putQ]
    have e1:FR (E*D') (wA*D') (if j∈p then atQ t (p.idxOf j) k else 0):=by
      refine FR.up ?_
      split
      · next hp=>exact h k (Nat.le_refl _) _ (idx_lt hp)
      · exact zero_frac
    have e2:FR (E*D') ((freeQ p k).length*(wD*wA)) (sumN (fun m=>s.getD m 0*atQ (waysQ t p k) m j) (freeQ p k).length):=by
      refine FR.sum fun c hc=>?_
      have:=(hsx c (by omega)).mul (ways_fr b0 h hc hj)
      rwa [Nat.mul_comm D' E] at this
    refine(e1.add e2).mono ?_;have h4:wA*D'≤wA*wD:=Nat.mul_le_mul_left _ h2;have h5:(freeQ p k).length*(wD*wA)≤4*(wD*wA):=Nat.mul_le_mul_right _ (by omega);rw[Nat.mul_comm wA wD] at h4;unfold wX;omega
theorem bound_ans (hk:1≤k) (hk4:k≤4) (hn:1≤n) (hn6:n≤6) (hm:1≤m) (hm4:m≤4):boundA ((rowsD N D k n).map (List.map qx)) ((listD N D f n).map qx) ((rowsD N2 D2 k m).map (List.map qx)) ((listD N2 D2 g m).map qx) =
    toldB (boundQ (rowsD N D k n) (listD N D f n) (rowsD N2 D2 k m) (listD N2 D2 g m)):=by
  rw[boundA_q (okW_rowsD hk (by omega) hn (by omega)) (okV_listD hn (by omega)) (okW_rowsD hk (by omega) hm (by omega)) (okV_listD hm (by omega)),if_pos ⟨by rw[listD_len,rowsD_len],by rw[listD_len,rowsD_len],by rw[rowsD_wq hm,rowsD_wq hn]⟩]
theorem bound_is (hk:1≤k) (a0:k≤4) (hn:1≤n) (hn6:n≤6) (hm:1≤m) (hm4:m≤4) :
    (boundA ((rowsD N D k n).map (List.map qx)) ((listD N D f n).map qx) ((rowsD N2 D2 k m).map (List.map qx)) ((listD N2 D2 g m).map qx)=(none,4)∧∀ y,¬ SolA k (rowsD N2 D2 k m) (listD N2 D2 g m) y) ∨
    boundA ((rowsD N D k n).map (List.map qx)) ((listD N D f n).map qx) ((rowsD N2 D2 k m).map (List.map qx)) ((listD N2 D2 g m).map qx)=(none,7) ∨
    ∃ x,boundA ((rowsD N D k n).map (List.map qx)) ((listD N D f n).map qx) ((rowsD N2 D2 k m).map (List.map qx)) ((listD N2 D2 g m).map qx)=(some x,0)∧x.length=k∧SolA k (rowsD N2 D2 k m) (listD N2 D2 g m) x ∧
      (∃ D',0<D'∧D'≤wX∧∀ j,j<k→FR D' wX (x.getD j 0))∧(m<k→∀ y,SolA k (rowsD N2 D2 k m) (listD N2 D2 g m) y→sqQ k (rowsD N D k n) (listD N D f n) x≤sqQ k (rowsD N D k n) (listD N D f n) y):=by
  rw[bound_ans hk a0 hn hn6 hm hm4];have hsol:∀ y,Sol k (redT N2 D2 g k m) y↔SolA k (rowsD N2 D2 k m) (listD N2 D2 g m) y:=fun y=>(sol_elim (wt_wide (N2:=N2) (D2:=D2) (g:=g) (k:=k) (m:=m)) k).trans (solA_iff (rowsD_wide k m))
  have R:=redR (N2:=N2) (D2:=D2) (g:=g) (k:=k) (m:=m);have hS:=redS (N2:=N2) (D2:=D2) (g:=g) (k:=k) (m:=m);have hTl:=redT_len (N2:=N2) (D2:=D2) (g:=g) (k:=k) (m:=m);have hPl:=redP_le (N2:=N2) (D2:=D2) (g:=g) (k:=k) (m:=m);have hfl:∀ {x:List Rat},x.length=k→(∃ D',0<D'∧D'≤wX∧∀ j,j<k→FR D' wX (x.getD j 0))→toldO (some x)=(some x,0):=fun {x} hl ⟨D',h1,h2,h3⟩=>by
    have hb:wX<bp 60:=by decide +kernel
    exact if_pos fun q hq=>by
      obtain⟨i,hi,rfl⟩:=List.mem_iff_getElem.1 hq;have h4:=(FR.ql (k:=60) h1 (h3 i (by omega)) hb (Nat.lt_of_le_of_lt h2 hb)).up (show 60≤600 by decide);rw[getD_is hi] at h4;unfold QL at h4;exact h4
  have hbq:boundQ (rowsD N D k n) (listD N D f n) (rowsD N2 D2 k m) (listD N2 D2 g m)=if solvQ (redT N2 D2 g k m,redP N2 D2 g k m) k=true then
      if waysQ (redT N2 D2 g k m) (redP N2 D2 g k m) k=[] then some (some (pointQ (redT N2 D2 g k m) (redP N2 D2 g k m) k))
      else some ((solveQ (normM (stepsQ (rowsD N D k n) (waysQ (redT N2 D2 g k m) (redP N2 D2 g k m) k))) (normV (stepsQ (rowsD N D k n) (waysQ (redT N2 D2 g k m) (redP N2 D2 g k m) k)) (leftQ (rowsD N D k n) (listD N D f n) (pointQ (redT N2 D2 g k m) (redP N2 D2 g k m) k)))).map fun t=>movedQ (pointQ (redT N2 D2 g k m) (redP N2 D2 g k m) k) (waysQ (redT N2 D2 g k m) (redP N2 D2 g k m) k) t)
      else none:=by
    unfold boundQ redT redP;rw[rowsD_wq hm]
  rw[hbq];cases hv:solvQ (redT N2 D2 g k m,redP N2 D2 g k m) k with
  | false=>
    left
    refine⟨rfl,fun y hy=>?_⟩;obtain⟨i,h1,h2,h3⟩:=solv_not hv (by rw[hTl];exact hPl);have h4:=(hsol y).2 hy i h2;rw[dot_nil fun c hc=>by rw[show((redT N2 D2 g k m).getD i []).getD c 0=0 from R.zero i h1 h2 c hc,Rat.zero_mul]] at h4;exact h3 h4.symm
  | true=>
    right
    rw[if_pos rfl];have hz:=solv_zero hv;obtain⟨E,e1,e2,e3⟩:=red_fr (N2:=N2) (D2:=D2) (g:=g) (k:=k) hm hm4 (fun i h1 h2=>hz i h1 (by rw[hTl];exact h2));have b0:wA≤wX:=by decide +kernel
    by_cases hw:waysQ (redT N2 D2 g k m) (redP N2 D2 g k m) k=[]
    · right
      rw[if_pos hw];have hf0:(freeQ (redP N2 D2 g k m) k).length=0:=by rw[← waysQ_len (t:=redT N2 D2 g k m),hw];rfl
      have hps:SolA k (rowsD N2 D2 k m) (listD N2 D2 g m) (pointQ (redT N2 D2 g k m) (redP N2 D2 g k m) k):=by
        refine(hsol _).1 ((sol_red R hS hz).2 fun i hi=>?_);rw[pointQ_get hi,putQ,hf0]
        show _=_+(0:Rat)
        rw[Rat.add_zero]
      have hfr:∃ D',0<D'∧D'≤wX∧∀ j,j<k→FR D' wX ((pointQ (redT N2 D2 g k m) (redP N2 D2 g k m) k).getD j 0):=⟨E,e1,Nat.le_trans e2 b0,fun j _=>(point_fr e1 e3 j).mono b0⟩;refine⟨_,hfl pointQ_len hfr,pointQ_len,hps,hfr,fun hmk=>?_⟩;have h5:=free_many (k:=k) (p:=redP N2 D2 g k m)
      omega
    · rw[if_neg hw]
      have hf1:1≤(freeQ (redP N2 D2 g k m) k).length:=by
        rw[← waysQ_len (t:=redT N2 D2 g k m)];exact Nat.pos_of_ne_zero fun e=>hw (List.eq_nil_of_length_eq_zero e)
      cases hs:solveQ (normM (stepsQ (rowsD N D k n) (waysQ (redT N2 D2 g k m) (redP N2 D2 g k m) k))) (normV (stepsQ (rowsD N D k n) (waysQ (redT N2 D2 g k m) (redP N2 D2 g k m) k)) (leftQ (rowsD N D k n) (listD N D f n) (pointQ (redT N2 D2 g k m) (redP N2 D2 g k m) k))) with
      | none=>left;rfl
      | some s=>
        right
        have hfr:=moved_fr (N:=N) (D:=D) (f:=f) e1 e2 e3 a0 hn hn6 hf1 hs;have hml:(movedQ (pointQ (redT N2 D2 g k m) (redP N2 D2 g k m) k) (waysQ (redT N2 D2 g k m) (redP N2 D2 g k m) k) s).length=k:=by rw[movedQ_len,pointQ_len]
        refine⟨_,hfl hml hfr,hml,?_,hfr,fun _ y hy=>?_⟩
        · exact(hsol _).1 (bound_least (y:=[]) (rowsD_wide k n) (by rw[rowsD_len];exact hn) R hS hz hf1 hs).2.1
        · exact(bound_least (rowsD_wide k n) (by rw[rowsD_len];exact hn) R hS hz hf1 hs).2.2 ((hsol y).2 hy)
def wY:Nat:=3000*wX
theorem wXY:wX≤wY:=by unfold wY;omega
theorem wide_ql {D':Nat} {q:Rat} (hD:0<D') (hDZ:D'≤wY) (h:FR D' wY q):QL 60 60 q:=by
  have hb:wY<bp 60:=by decide +kernel
  exact FR.ql (k:=60) hD h hb (Nat.lt_of_le_of_lt hDZ hb)
theorem wide_times {r y:List Rat} {D':Nat} (hr:r.length=k) (hy:y.length=k) (hk4:k≤4) (h1:∀ j,FR 60 2940 (r.getD j 0)) (hD:0<D') (a0:D'≤wY) (h2:∀ j,j<k→FR D' wY (y.getD j 0)):TimesOK r y:=by
  have hb:4*(2940*wY)<bp 70:=by decide +kernel
  have hd:60*D'<bp 70:=Nat.lt_of_le_of_lt (Nat.mul_le_mul_left 60 a0) (by decide +kernel);have hp:0<60*D':=by omega
  have up:∀ {j:Nat},j≤4→j≤k→QL 600 600 (dotTo r y j):=fun {j} hj hjk=>(FR.ql (k:=70) hp (dot_frac (n:=j) (fun i _=>h1 i) (fun i hi=>h2 i (by omega))) (Nat.lt_of_le_of_lt (Nat.mul_le_mul_right _ hj) hb) hd).up (by decide)
  intro j hj;have hjk:j<k:=by omega
  refine⟨(FR.ql (k:=1) (by decide) (h1 j) (by decide) (by decide)).up (by decide),(wide_ql hD a0 (h2 j hjk)).up (by decide),?_,up (by omega) (by omega),up (by omega) (by omega)⟩;have h3:=((h1 j).mul (h2 j hjk)).mono (show 2940*wY≤4*(2940*wY) by omega);exact(FR.ql (k:=70) hp h3 hb hd).up (by decide)
theorem wide_holds {y:List Rat} {D':Nat} (a0:k≤4) (hy:y.length=k) (hs:SolA k (rowsD N2 D2 k m) (listD N2 D2 g m) y) (hD:0<D') (b0:D'≤wY) (h2:∀ j,j<k→FR D' wY (y.getD j 0)):HoldsOK (rowsD N2 D2 k m) y (listD N2 D2 g m):=by
  refine⟨by rw[rowsD_len,listD_len];exact Nat.le_refl _,fun i hi=>?_⟩;rw[rowsD_len] at hi;have hrl:((rowsD N2 D2 k m).getD i []).length=k:=(rowsD_wide k m).getD (by rw[rowsD_len];exact hi);refine⟨by rw[hrl,hy],wide_times hrl hy a0 (fun j=>rowsD_frac k m i j) hD b0 h2,?_⟩;rw[hy];exact hs i (by rw[rowsD_len];exact hi)
theorem within_holds (_hk:1≤k) (hk4:k≤4) (hx:x.length=k) (hs:SolA k (rowsD N2 D2 k m) (listD N2 D2 g m) x) (h:∃ D',0<D'∧D'≤wX∧∀ j,j<k→FR D' wX (x.getD j 0)):HoldsOK (rowsD N2 D2 k m) x (listD N2 D2 g m):=by
  obtain⟨D',h1,h2,h3⟩:=h;exact wide_holds hk4 hx hs h1 (Nat.le_trans h2 wXY) fun j hj=>(h3 j hj).mono wXY
theorem sol_first (hm:1≤m) (h:SolA k (rowsD N2 D2 k m) (listD N2 D2 g m) x):SolA k (rowsD N2 D2 k 1) (listD N2 D2 g 1) x:=by
  intro i hi;rw[rowsD_len] at hi;obtain rfl:i=0:=by omega
  have h0:=h 0 (by rw[rowsD_len];omega);rw[rowsD_at (by omega),listD_at (by omega)] at h0 ⊢;exact h0
theorem wide_meas {y:List Rat} {D':Nat} (hk:1≤k) (a0:k≤4) (hn:1≤n) (hn6:n≤6) (hl:y.length=k) (hD:0<D') (b0:D'≤wY) (hx:∀ j,j<k→FR D' wY (y.getD j 0)) :
    measureA ((rowsD N D k n).map (List.map qx)) ((listD N D f n).map qx) (y.map qx)=(some (squaresQ (rowsD N D k n) (listD N D f n) y),0)∧QL 600 600 (squaresQ (rowsD N D k n) (listD N D f n) y):=by
  have key:QL 600 600 (squaresQ (rowsD N D k n) (listD N D f n) y):=by
    rw[sq_is (rowsD_wide k n) hl];have h:=measure_frac (a:=rowsD N D k n) (b:=listD N D f n) (rowsD_frac k n) (listD_frac f n) hx b0;rw[rowsD_len] at h;have hc:k*(2940*wY)+2940*wY≤14700*wY:=by
      have h1:k*(2940*wY)≤4*(2940*wY):=Nat.mul_le_mul_right _ a0
      omega
    have h2:n*((k*(2940*wY)+2940*wY)*(k*(2940*wY)+2940*wY))≤6*(14700*wY*(14700*wY)):=Nat.mul_le_mul hn6 (Nat.mul_le_mul hc hc);have h3:(60*D')*(60*D')≤(60*wY)*(60*wY):=Nat.mul_le_mul (Nat.mul_le_mul_left _ b0) (Nat.mul_le_mul_left _ b0);exact(FR.ql (k:=200) (Nat.mul_pos (by omega) (by omega)) (h.mono h2) (by decide +kernel) (Nat.lt_of_le_of_lt h3 (by decide +kernel))).up (by decide)
  refine⟨?_,key⟩;rw[measureA_q (okW_rowsD hk (by omega) hn (by omega)) (okV_listD hn (by omega)) (fun q hq=>by
    obtain⟨i,hi,rfl⟩:=List.mem_iff_getElem.1 hq;have:=(wide_ql hD b0 (hx i (by omega))).up (show 60≤600 by decide)
    rwa [getD_is hi] at this),if_pos ⟨by rw[listD_len,rowsD_len],by rw[hl,rowsD_wq hn]⟩]
  exact toldQ_lit rfl key
def stepY (x c:List Rat) (a b:Nat):List Rat:=(x.set a (x.getD a 0+c.getD b 0)).set b (x.getD b 0-c.getD a 0)
theorem stepY_len {c:List Rat} {a b:Nat}:(stepY x c a b).length=x.length:=by simp[stepY]
theorem stepY_at {c:List Rat} {a b i:Nat} (hi:i<x.length):(stepY x c a b).getD i 0=if i=b then x.getD b 0-c.getD a 0 else if i=a then x.getD a 0+c.getD b 0 else x.getD i 0:=by
  rw[getD_is (by rw[stepY_len];exact hi)];unfold stepY;rw[List.getElem_set,List.getElem_set];by_cases h1:i=b
  · rw[if_pos h1.symm,if_pos h1]
  · rw[if_neg (fun e=>h1 e.symm),if_neg h1]
    by_cases h2:i=a
    · rw[if_pos h2.symm,if_pos h2]
    · rw[if_neg (fun e=>h2 e.symm),if_neg h2,getD_is hi]
theorem stepY_fr {a b:Nat} {D':Nat} (hx:x.length=k) (h2:D'≤wX) (h3:∀ j,j<k→FR D' wX (x.getD j 0)) (ha:a<k) (hb:b<k):∀ j,j<k→FR (D'*60) wY ((stepY x (listD N2 D2 0 k) a b).getD j 0):=fun j hj=>by
  have hc:∀ i,FR (D'*60) (2940*wX) ((listD N2 D2 0 k).getD i 0):=fun i=>by
    have h:=FR.up (D':=D') (listD_frac (N:=N2) (D:=D2) 0 k i);rw[Nat.mul_comm 60 D'] at h;exact h.mono (Nat.mul_le_mul_left _ h2)
  have hxx:∀ i,i<k→FR (D'*60) (wX*60) (x.getD i 0):=fun i hi=>FR.up (h3 i hi)
  rw[stepY_at (by omega)]
  split
  · exact((hxx b hb).sub (hc a)).mono (by unfold wY;omega)
  · split
    · exact((hxx a ha).add (hc b)).mono (by unfold wY;omega)
    · exact(hxx j hj).mono (by unfold wY;omega)
theorem stepY_sol {a b:Nat} (hx:x.length=k) (ha:a<k) (hb:b<k) (hne:a≠b) (h:SolA k (rowsD N2 D2 k 1) (listD N2 D2 g 1) x):SolA k (rowsD N2 D2 k 1) (listD N2 D2 g 1) (stepY x (listD N2 D2 0 k) a b):=by
  intro i hi;rw[rowsD_len] at hi;obtain rfl:i=0:=by omega
  have h0:=h 0 (by rw[rowsD_len];omega);rw[rowsD_at (by omega),Nat.mul_zero] at h0 ⊢;rw[← h0];generalize listD N2 D2 0 k=c;rw[dot_sum,dot_sum];have e:∀ j,j<k→c.getD j 0*(stepY x c a b).getD j 0=c.getD j 0*x.getD j 0+((if j=a then c.getD a 0*c.getD b 0 else 0)+(if j=b then -(c.getD b 0*c.getD a 0) else 0)):=fun j hj=>by
    rw[stepY_at (by omega)];by_cases h1:j=b
    · subst h1;rw[if_pos rfl,if_pos rfl,if_neg (fun e=>hne e.symm)];grind
    · rw[if_neg h1,if_neg h1]
      by_cases h2:j=a
      · subst h2;rw[if_pos rfl,if_pos rfl];grind
      · rw[if_neg h2,if_neg h2];grind
  rw[sumN_congr e,sumN_add,sumN_add,sumN_one (c:=a) (fun j _ h=>if_neg h),sumN_one (c:=b) (fun j _ h=>if_neg h),if_pos ha,if_pos hb,if_pos rfl,if_pos rfl]
  grind
theorem within_ql {a b:Nat} (_hx:x.length=k) (h:∃ D',0<D'∧D'≤wX∧∀ j,j<k→FR D' wX (x.getD j 0)) (ha:a<k) (hb:b<k) :
    QL 600 600 (x.getD a 0)∧QL 600 600 (x.getD b 0)∧QL 600 600 ((listD N2 D2 g k).getD b 0)∧QL 600 600 ((listD N2 D2 g k).getD a 0)∧QL 600 600 (x.getD a 0+(listD N2 D2 g k).getD b 0)∧QL 600 600 (x.getD b 0-(listD N2 D2 g k).getD a 0):=by
  obtain⟨D',h1,h2,h3⟩:=h;have hq:∀ i,i<k→QL 60 60 (x.getD i 0):=fun i hi=>wide_ql h1 (Nat.le_trans h2 wXY) ((h3 i hi).mono wXY)
  have hc:∀ i,QL 1 1 ((listD N2 D2 g k).getD i 0):=fun i=>FR.ql (k:=1) (by decide) (listD_frac g k i) (by decide) (by decide)
  exact⟨(hq a ha).up (by decide),(hq b hb).up (by decide),(hc b).up (by decide),(hc a).up (by decide),(QL.add (hq a ha) (hc b)).mono (by decide) (by decide),(QL.sub (hq b hb) (hc a)).mono (by decide) (by decide)⟩
end
end Go.Proofs.YtdigbofiebfkeaaGreatDoor
