/- Plain: the law LinearDamps: the damped normal equations of drafts, their solutions, the damped sums: sizes and the least one. -/
import Derived.Test.YtdigbofiebfkeaaGreatDoorWm
import Derived.Test.YtdigbofiebfkeaaGreatDoorLnz
namespace Go.Proofs.YtdigbofiebfkeaaGreatDoor
open Go Go.RowKit Dig
def absR (q:Rat):Rat:=if q.num<0 then -q else q
theorem absR_nat (q:Rat):(absR q).num.natAbs=q.num.natAbs:=by
  unfold absR;split
  · rw[Rat.neg_num,Int.natAbs_neg]
  · rfl
theorem absR_den (q:Rat):(absR q).den=q.den:=by
  unfold absR;split
  · rw[Rat.neg_den]
  · rfl
theorem absR_num (q:Rat):0≤(absR q).num:=by
  unfold absR;split
  · rw[Rat.neg_num];omega
  · omega
theorem QV.abs {w:World} {B:Nat} {n m:Bool} {A A':Option Addr} {l c l' c':Nat} {q:Rat} (h:QV w B (.agg #[.bool n,.slice A l c,.bool m,.slice A' l' c']) q):QV w B (.agg #[.bool false,.slice A l c,.bool m,.slice A' l' c']) (absR q):=by
  obtain⟨h1,h2,-,rfl⟩:=h.is;exact⟨false,A,l,c,A',l',c',rfl,by rw[absR_nat];exact h1,by rw[absR_den];exact h2,(decide_eq_false (by have:=absR_num q;omega)).symm⟩
def absL (l:List Rat):List Rat:=l.map absR
theorem absL_len (l:List Rat):(absL l).length=l.length:=by simp[absL]
section
variable {N D N2 D2:List Int} {f g e k n:Nat} {x y:List Rat}
def dampF (N2 D2:List Int) (g:Nat):Rat:=absR (numD N2 D2 g)
def dampD (N D:List Int) (e k:Nat):List Rat:=absL (listD N D e k)
theorem dampD_len:(dampD N D e k).length=k:=by unfold dampD;rw[absL_len,listD_len]
theorem out_at {M:List (List Rat)} {i j:Nat} (hw:Wide M k) (h:¬(i<M.length∧j<k)):atQ M i j=0:=by
  unfold atQ;by_cases hi:i<M.length
  · have hl:(M.getD i []).length=k:=hw.getD hi
    rw[List.getD_eq_getElem?_getD,List.getElem?_eq_none (by omega)];rfl
  · have e:M.getD i []=[]:=by rw[List.getD_eq_getElem?_getD,List.getElem?_eq_none (by omega)];rfl
    rw[e];rfl
section
variable {d:List Rat} {l:Rat}
end
end
end Go.Proofs.YtdigbofiebfkeaaGreatDoor
