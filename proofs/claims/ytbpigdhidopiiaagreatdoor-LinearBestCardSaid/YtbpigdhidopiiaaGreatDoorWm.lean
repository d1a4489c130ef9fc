/- Plain: the law LinearBest: sizes of normal equations of drafts and of their solutions. -/
import Derived.Test.YtbpigdhidopiiaaGreatDoorWhk
import Derived.Test.YtbpigdhidopiiaaGreatDoorLnz
namespace Go.Proofs.YtbpigdhidopiiaaGreatDoor
open Go Go.RowKit Dig
theorem frac_mem {l:List Rat} {D Z:Nat} (h:∀ i,FR D Z (l.getD i 0)):∀ q∈l,FR D Z q:=fun q hq=>by
 obtain⟨i,hi,rfl⟩:=List.mem_iff_getElem.1 hq;have:=h i
 rwa [getD_is hi] at this
theorem frac_memM {M:List (List Rat)} {D Z:Nat} (h:∀ i j,FR D Z (atQ M i j)):∀ r∈M,∀ q∈r,FR D Z q:=fun r hr q hq=>by
 obtain⟨i,hi,rfl⟩:=List.mem_iff_getElem.1 hr;refine frac_mem (fun j=>?_) q hq;have:=h i j;unfold atQ at this
 rwa [getD_is hi] at this
def bigZ:Nat:=173618054969812500883046400000000
theorem bigZ_eq:24*(51861600*(51861600*(51861600*51861600)))=bigZ:=by decide +kernel
section
variable {N D:List Int} {f k n:Nat} {x:List Rat}
theorem normM_fr (hn:1≤n) (hn6:n≤6):∀ i j,FR 3600 51861600 (atQ (normM (rowsD N D k n)) i j):=fun i j=>by
 have h:=normM_frac (rowsD_wide k n) (rowsD_wq hn) (rowsD_frac (N:=N) (D:=D) k n) i j;rw[rowsD_len] at h;exact h.mono (by omega)
theorem normV_fr (hn:1≤n) (hn6:n≤6):∀ i,FR 3600 51861600 ((normV (rowsD N D k n) (listD N D f n)).getD i 0):=fun i=>by
 have h:=normV_frac (rowsD_wq hn) (rowsD_frac (N:=N) (D:=D) k n) (listD_frac (N:=N) (D:=D) f n) i;rw[rowsD_len] at h;exact h.mono (by omega)
theorem normV_length {a:List (List Rat)} {b:List Rat}:(normV a b).length=wideQ a:=by simp[normV,turnQ]
theorem fr_ql1 {q:Rat} (h:FR 3600 51861600 q):QL 1 1 q:=FR.ql (by decide) h (by decide) (by decide)
theorem best_normal (hk:1≤k) (hk4:k≤4) (hn:1≤n) (hn6:n≤6):normalA ((rowsD N D k n).map (List.map qx)) ((listD N D f n).map qx)=(some (normM (rowsD N D k n),normV (rowsD N D k n) (listD N D f n)),0):=by
 rw[normalA_q (okW_rowsD hk (by omega) hn (by omega)) (okV_listD hn (by omega)),if_pos (by rw[listD_len,rowsD_len])];refine if_pos ⟨fun r hr q hq=>?_,fun q hq=>?_⟩
 ·have h:=(fr_ql1 (frac_memM (normM_fr hn hn6) r hr q hq)).up (show 1≤600 by decide);unfold QL at h;exact h
 ·have h:=(fr_ql1 (frac_mem (normV_fr hn hn6) q hq)).up (show 1≤600 by decide);unfold QL at h;exact h
theorem best_wide (hn:1≤n):Wide (normM (rowsD N D k n)) k:=by have:=normM_wide (rowsD N D k n);rwa [rowsD_wq hn] at this
theorem best_wq (hk:1≤k) (hn:1≤n):wideQ (normM (rowsD N D k n))=k:=by rw[normM_wq _ (by rw[rowsD_wq hn];exact hk),rowsD_wq hn]
theorem best_len (hn:1≤n):(normM (rowsD N D k n)).length=k:=by rw[normM_len,rowsD_wq hn]
theorem best_vlen (hn:1≤n):(normV (rowsD N D k n) (listD N D f n)).length=k:=by rw[normV_length,rowsD_wq hn]
theorem best_okW (hk:1≤k) (hk4:k≤4) (hn:1≤n) (hn6:n≤6):okW (normM (rowsD N D k n)):=
 ⟨fun r hr q hq=>(fr_ql1 (frac_memM (normM_fr hn hn6) r hr q hq)).up (by decide),by rw[best_wq hk hn];exact best_wide hn,by rw[best_len hn];exact hk,by rw[best_len hn];omega,by rw[best_wq hk hn];exact hk,by rw[best_wq hk hn];omega⟩
theorem best_okV (hk:1≤k) (hk4:k≤4) (hn:1≤n) (hn6:n≤6):okV (normV (rowsD N D k n) (listD N D f n)):=
 ⟨fun q hq=>(fr_ql1 (frac_mem (normV_fr hn hn6) q hq)).up (by decide),by rw[best_vlen hn];exact hk,by rw[best_vlen hn];omega⟩
theorem best_none (hk:1≤k) (hk4:k≤4) (hn:1≤n) (hn6:n≤6) (h:solveQ (normM (rowsD N D k n)) (normV (rowsD N D k n) (listD N D f n))=none) :
  leastA ((rowsD N D k n).map (List.map qx)) ((listD N D f n).map qx)=(none,7)∧solveA ((normM (rowsD N D k n)).map (List.map qx)) ((normV (rowsD N D k n) (listD N D f n)).map qx)=(none,7):=by
 constructor
 ·rw[leastA_q (okW_rowsD hk (by omega) hn (by omega)) (okV_listD hn (by omega)),if_pos (by rw[listD_len,rowsD_len]),h];rfl
 ·rw[solveA_q (best_okW hk hk4 hn hn6) (best_okV hk hk4 hn hn6),if_pos ⟨by rw[best_vlen hn,best_len hn],by rw[best_len hn,best_wq hk hn]⟩,h];rfl
theorem best_is (hk:1≤k) (a0:k≤4) (hn:1≤n) (hn6:n≤6) (h:solveQ (normM (rowsD N D k n)) (normV (rowsD N D k n) (listD N D f n))=some x) :
  x.length=k∧(∀ q∈x,QL 4 4 q)∧∃ D',0<D'∧D'≤bigZ∧∀ j,j<k→FR D' bigZ (x.getD j 0):=by
 have hb:bp 4=1000000000000000000000000000000000000:=by decide +kernel
 have hl:=(solveQ_is (best_wide hn) (best_wq hk hn) h).1;refine⟨hl,fun q hq=>?_,?_⟩
 ·obtain⟨i,hi,rfl⟩:=List.mem_iff_getElem.1 hq;have:=solveQ_size (D:=3600) (Z:=51861600) (k:=4) a0 (best_wide hn) (best_wq hk hn) (best_len hn) (by decide) (by decide) (normM_fr hn hn6) (normV_fr hn hn6) h (by rw[hb,bigZ_eq];decide +kernel) i (by omega)
  rwa [getD_is hi] at this
 ·obtain⟨D',h1,h2,h3⟩:=solveQ_frac (D:=3600) (Z:=51861600) a0 (best_wide hn) (best_wq hk hn) (best_len hn) (by decide) (by decide) (normM_fr hn hn6) h;rw[bigZ_eq] at h2 h3;exact⟨D',h1,h2,h3 _ _ h (normV_fr hn hn6)⟩
theorem best_some (hk:1≤k) (a0:k≤4) (hn:1≤n) (hn6:n≤6) (h:solveQ (normM (rowsD N D k n)) (normV (rowsD N D k n) (listD N D f n))=some x) :
  leastA ((rowsD N D k n).map (List.map qx)) ((listD N D f n).map qx)=(some x,0):=by
 rw[leastA_q (okW_rowsD hk (by omega) hn (by omega)) (okV_listD hn (by omega)),if_pos (by rw[listD_len,rowsD_len]),h];exact if_pos fun q hq=>by have h2:=((best_is hk a0 hn hn6 h).2.1 q hq).up (show 4≤600 by decide);unfold QL at h2;exact h2
theorem best_holds (hk:1≤k) (a0:k≤4) (hn:1≤n) (hn6:n≤6) (h:solveQ (normM (rowsD N D k n)) (normV (rowsD N D k n) (listD N D f n))=some x) :
  HoldsOK (normM (rowsD N D k n)) x (normV (rowsD N D k n) (listD N D f n)):=by
 obtain⟨hl,hq,D',hD,b0,hx⟩:=best_is hk a0 hn hn6 h;obtain⟨-,hs⟩:=solveQ_is (best_wide hn) (best_wq hk hn) h;have hb:bp 5=1000000000000000000000000000000000000000000000:=by decide +kernel
 refine⟨by rw[best_len hn,best_vlen hn];exact Nat.le_refl _,fun i hi=>?_⟩;rw[best_len hn] at hi;have hrl:((normM (rowsD N D k n)).getD i []).length=k:=(best_wide hn).getD (by rw[best_len hn];exact hi);refine⟨by rw[hrl,hl],fun j hj=>?_,?_⟩
 ·have hjk:j<k:=by omega
  have h1:∀ j,FR 3600 51861600 (((normM (rowsD N D k n)).getD i []).getD j 0):=normM_fr hn hn6 i;have hp:0<3600*D':=by omega
  unfold bigZ at b0 hx;refine⟨(FR.ql (k:=5) (by decide) (h1 j) (by rw[hb];decide) (by rw[hb];decide)).up (by decide),(FR.ql (k:=5) hD (hx j hjk) (by rw[hb];decide) (by rw[hb];omega)).up (by decide),
   (FR.ql (k:=5) hp ((h1 j).mul (hx j hjk)) (by rw[hb];decide) (by rw[hb];omega)).up (by decide),
   (FR.ql (k:=5) hp (dot_frac (n:=j) (fun j _=>h1 j) (fun i hi=>hx i (by omega))) (by rw[hb];omega) (by rw[hb];omega)).up (by decide),
   (FR.ql (k:=5) hp (dot_frac (n:=j+1) (fun j _=>h1 j) (fun i hi=>hx i (by omega))) (by rw[hb];omega) (by rw[hb];omega)).up (by decide)⟩
 ·rw[hl];exact(hs x).2 (fun _ _=>rfl) i (by rw[best_len hn];exact hi)
theorem best_meas {y:List Rat} {D':Nat} (hk:1≤k) (hk4:k≤4) (hn:1≤n) (hn6:n≤6) (hl:y.length=k) (hy:∀ q∈y,QL 600 600 q) (hD:0<D') (a0:D'≤bigZ) (hx:∀ j,j<k→FR D' bigZ (y.getD j 0)) :
  measureA ((rowsD N D k n).map (List.map qx)) ((listD N D f n).map qx) (y.map qx)=(some (squaresQ (rowsD N D k n) (listD N D f n) y),0)∧QL 600 600 (squaresQ (rowsD N D k n) (listD N D f n) y):=by
 have key:QL 10 10 (squaresQ (rowsD N D k n) (listD N D f n) y):=by
  rw[sq_is (rowsD_wide k n) hl];have h:=measure_frac (a:=rowsD N D k n) (b:=listD N D f n) (rowsD_frac k n) (listD_frac f n) hx a0;rw[rowsD_len] at h;have hc:k*(2940*bigZ)+2940*bigZ≤14700*bigZ:=by unfold bigZ;omega
  have h2:n*((k*(2940*bigZ)+2940*bigZ)*(k*(2940*bigZ)+2940*bigZ))≤6*(14700*bigZ*(14700*bigZ)):=Nat.mul_le_mul hn6 (Nat.mul_le_mul hc hc);have h3:(60*D')*(60*D')≤(60*bigZ)*(60*bigZ):=Nat.mul_le_mul (Nat.mul_le_mul_left _ a0) (Nat.mul_le_mul_left _ a0);exact FR.ql (k:=10) (Nat.mul_pos (by omega) (by omega)) (h.mono h2) (by decide +kernel) (Nat.lt_of_le_of_lt h3 (by decide +kernel))
 refine⟨?_,key.up (by decide)⟩;rw[measureA_q (okW_rowsD hk (by omega) hn (by omega)) (okV_listD hn (by omega)) hy,if_pos ⟨by rw[listD_len,rowsD_len],by rw[hl,rowsD_wq hn]⟩];exact toldQ_lit rfl (key.up (by decide))
end
theorem map_qx_eq {x y:List Rat} (hx:∀ q∈x,QL 600 600 q) (hy:∀ q∈y,QL 600 600 q):x.map qx=y.map qx↔x=y:=⟨fun h=>by rw[← rats_qx hx,h,rats_qx hy],fun h=>by rw[h]⟩
theorem cmpR_le {q r:Rat}:cmpR q r≤0↔q≤r:=by
 unfold cmpR;rw[Rat.le_iff];have e:q.num*(r.den:Int)+-r.num*(q.den:Int)=q.num*(r.den:Int)-r.num*(q.den:Int):=by rw[Int.neg_mul];omega
 rw[e];generalize q.num*(r.den:Int)=u;generalize r.num*(q.den:Int)=v;rcases Int.lt_trichotomy (u-v) 0 with h | h | h
 ·rw[Int.sign_eq_neg_one_of_neg h];omega
 ·rw[h];simp;omega
 ·rw[Int.sign_eq_one_of_pos h];omega
end Go.Proofs.YtbpigdhidopiiaaGreatDoor
