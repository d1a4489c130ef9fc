/- Layer 35: Bound's pieces, place by place; their sizes; lists and tables of rows where something else has turned. -/
import Derived.Test.YtdigbofiebfkeaaGreatDoorLw
import Derived.Test.YtdigbofiebfkeaaGreatDoorLns
import Derived.Test.YtdigbofiebfkeaaGreatDoorLj
import Derived.Test.YtdigbofiebfkeaaGreatDoorLk
import Derived.Test.YtdigbofiebfkeaaGreatDoorLopq
namespace Go.Proofs.YtdigbofiebfkeaaGreatDoor
open Go Go.RowKit Dig
section
variable {α:Type} {k:Nat} {E:Elem α} {T TH:TypeId} {w w':World} {S:Nat→Prop} {B tb R g n:Nat} {v v' u u':Value} {l:List α} {G C:Nat→Nat} {M:List (List α)} {row:Option Nat}
theorem OB.turns (h:OB k E T w g n l) (hE:E.Soft) (ht:Turns w w' S) (hn:¬ S g):OB k E T w' g n l:=by
 have hlt:=h.lt;obtain⟨arr,h1,h2,h3,h4⟩:=h;refine⟨arr,(ht.block g hlt hn).trans h1,h2,h3,fun j hj=>?_⟩;obtain⟨cs,e1,e2,e3⟩:=h4 j hj;exact⟨cs,e1,e2,hE e3 ht.soft⟩
theorem OM.turns (h:OM k E T TH w B tb R G C M) (hE:E.Soft) (ht:Turns w w' S) (hn:¬ S tb∧∀ i,i<M.length→¬ S (G i)):OM k E T TH w' B tb R G C M:=
 ⟨h.hdr.turns EV.soft ht hn.1,h.cap,h.inj,h.apart,h.low,fun i hi=>(h.rows i hi).turns hE ht (hn.2 i hi)⟩
theorem OA.grown (h:OA k E T w B v l) (hE:E.Soft) (hg:w.grownBy w' row) (hr:∀ X,v.ownBlock=some X→row≠some X) (hs:Go.Proofs.YtdigbofiebfkeaaGreatDoor.Soft w w'):OA k E T w' B v l:=by
 rcases h with h | ⟨g,cap,rfl,h2,h3,h4⟩
 ·exact .inl h
 ·exact .inr ⟨g,cap,rfl,h2,h3,h4.grown hE hg (hr g (by simp[Value.ownBlock])) hs⟩
theorem OMV.grown (h:OMV k E T TH w B v G C M) (hE:E.Soft) (hg:w.grownBy w' row) (hr:(∀ X,v.ownBlock=some X→row≠some X)∧∀ i,i<M.length→row≠some (G i)) (hs:Go.Proofs.YtdigbofiebfkeaaGreatDoor.Soft w w'):OMV k E T TH w' B v G C M:=
 ⟨h.hdr.grown EV.soft hg hr.1 hs,h.cap,h.inj,h.apart,fun i hi=>(h.rows i hi).grown hE hg (hr.2 i hi) hs⟩
def ApartV (v u:Value) (G:Nat→Nat) (m:Nat):Prop:=∀ X,u.ownBlock=some X→v.ownBlock≠some X∧∀ i,i<m→G i≠X
theorem ApartV.nil {m:Nat}:ApartV v (.slice none 0 0) G m:=fun X h=>by simp[Value.ownBlock] at h
theorem ApartV.push {Z b m:Nat} (h:ApartV v u G m) (hu:∀ X,u.ownBlock=some X→X<Z) (hg:Z≤g) (hv:v'.ownBlock=v.ownBlock∨v'.ownBlock=some b) (hb:Z≤b):ApartV v' u (updN m g G) (m+1):=fun X hX=>by
 have hZ:=hu X hX;refine⟨fun e=>?_,fun i hi=>?_⟩
 ·rcases hv with h' | h'
  ·exact(h X hX).1 (h'▸e)
  ·rw[h'] at e;injection e with e;omega
 ·unfold updN;by_cases e:i=m
  ·rw[if_pos e];omega
  ·rw[if_neg e];exact(h X hX).2 i (by omega)
theorem ApartV.other {b m:Nat} (h:ApartV v u G m) (hv:∀ X,v.ownBlock=some X→X<b) (hG:∀ i,i<m→G i<b) (hu:u'.ownBlock=u.ownBlock∨u'.ownBlock=some b):ApartV v u' G m:=fun X hX=>by
 rcases hu with h' | h'
 ·exact h X (h'▸hX)
 ·rw[h'] at hX;injection hX with hX
  exact⟨fun e=>by have:=hv X e;omega,fun i hi=>by have:=hG i hi;omega⟩
theorem OMV.blk {X:Nat} (h:OMV k E T TH w B v G C M) (e:v.ownBlock=some X):X<w.heap.size:=(h.hdr.blk e).1
end
theorem mk_row (n:Nat) (hn:n≤1000000) (w:World):(Instr.makeSlice 75 (.int .i64 (n:Int)) (.int .i64 (n:Int))).run Tryz.prog w =
  .ok (.slice (some ⟨w.heap.size,0,none⟩) n n) (w.alloc (.cells (madeCells #[.bool false,.slice none 0 0,.slice none 0 0] (n*3)) 84)):=by
 obtain⟨i,hi,hz,hs,hb⟩:=info_parts info_ratio;have h:=run_make (P:=Tryz.prog) w 75 84 i _ Tryz.underlying75 hi hz .i64 .i64 n n (by omega) (by omega) (by rw[hb];omega) (by omega);rw[h,hs];simp[Value.cells]
theorem made_row (w:World) (n:Nat):OB 3 ER 84 (w.alloc (.cells (madeCells #[.bool false,.slice none 0 0,.slice none 0 0] (n*3)) 84)) w.heap.size n []:=
 OB.made (k:=3) (E:=ER) w (by decide) (by decide) n
theorem OB.put1 {T:TypeId} {w:World} {g n B:Nat} {l:List Rat} {x:Rat} (h:OB 3 ER T w g n l) {j:Nat} (hj:j<l.length) {c0 c1 c2:Value} (hx:RV w w.heap.size (.agg #[c0,c1,c2]) x) (hB:B≤g) :
  OB 3 ER T (setCells w g (j*3) [c0,c1,c2]) g n (l.set j x)∧Below B w (setCells w g (j*3) [c0,c1,c2])∧Go.Proofs.YtdigbofiebfkeaaGreatDoor.Soft w (setCells w g (j*3) [c0,c1,c2]):=
 ⟨h.set ER.soft ER.free j hj (cs:=[c0,c1,c2]) rfl ⟨_,_,_,rfl,hx⟩,below_sets hB (Below.refl B w),h.softs ER.free (cs:=[c0,c1,c2]) (p:=j*3) (by have:=h.len;simp;omega)⟩
theorem OB.push1 {T:TypeId} {w:World} {g n B:Nat} {l:List Rat} {x:Rat} (h:OB 3 ER T w g n l) {j:Nat} (hj:j=l.length) (hn:j<n) {c0 c1 c2:Value} (hx:RV w w.heap.size (.agg #[c0,c1,c2]) x) (hB:B≤g) :
  OB 3 ER T (setCells w g (j*3) [c0,c1,c2]) g n (l++[x])∧Below B w (setCells w g (j*3) [c0,c1,c2])∧Go.Proofs.YtdigbofiebfkeaaGreatDoor.Soft w (setCells w g (j*3) [c0,c1,c2]):=by
 subst hj;exact⟨h.push ER.soft ER.free hn (cs:=[c0,c1,c2]) rfl ⟨_,_,_,rfl,hx⟩,below_sets hB (Below.refl B w),h.softs ER.free (cs:=[c0,c1,c2]) (p:=l.length*3) (by simp;omega)⟩
-- plain
def pointE (t:List (List Rat)) (p:List Nat) (n j:Nat):Rat:=if j∈p then atQ t (p.idxOf j) n else 0
def wayE (t:List (List Rat)) (p:List Nat) (j i:Nat):Rat:=if i=j then 1 else if i∈p then -(atQ t (p.idxOf i) j) else 0
section
variable {t:List (List Rat)} {p:List Nat} {n:Nat}
theorem map_range_take {α:Type} {f:Nat→α} {j:Nat} (h:j<n):((List.range n).map f).take (j+1)=((List.range n).map f).take j++[f j]:=by
 rw[List.take_add_one,List.getElem?_eq_getElem (by simpa using h)];simp
theorem pointQ_take {j:Nat} (h:j<n):(pointQ t p n).take (j+1)=(pointQ t p n).take j++[pointE t p n j]:=map_range_take h
theorem wayQ_take {j i:Nat} (h:i<n):(wayQ t p n j).take (i+1)=(wayQ t p n j).take i++[wayE t p j i]:=map_range_take h
theorem wayQ_len {j:Nat}:(wayQ t p n j).length=n:=by simp[wayQ]
def waysTo (t:List (List Rat)) (p:List Nat) (n j:Nat):List (List Rat):=((List.range j).filter fun j=>!decide (j∈p)).map (wayQ t p n)
theorem waysTo_in {j:Nat} (h:j∈p):waysTo t p n (j+1)=waysTo t p n j:=by
 unfold waysTo;rw[List.range_succ,List.filter_append];simp[h]
theorem waysTo_out {j:Nat} (h:j∉p):waysTo t p n (j+1)=waysTo t p n j++[wayQ t p n j]:=by
 unfold waysTo;rw[List.range_succ,List.filter_append];simp[h]
theorem waysTo_all:waysTo t p n n=waysQ t p n:=rfl
theorem waysTo_le {j:Nat}:(waysTo t p n j).length≤j:=by
 unfold waysTo;rw[List.length_map];exact Nat.le_trans (List.length_filter_le _ _) (by simp)
theorem waysTo_wide {j:Nat}:Wide (waysTo t p n j) n:=fun r hr=>by
 obtain⟨i,-,rfl⟩:=List.mem_map.1 hr;exact wayQ_len
theorem ni_mem {j:Nat}:(j:Int)∈ni p↔j∈p:=by
 unfold ni;rw[List.mem_map];exact⟨fun⟨a,h1,h2⟩=>by rw[← show a=j by omega];exact h1,fun h=>⟨j,h,rfl⟩⟩
theorem idx_ni {j:Nat}:idxI (ni p) (j:Int)=if j∈p then ((p.idxOf j:Nat):Int) else -1:=by
 have hm:(j:Int)∈ni p↔j∈p:=ni_mem;unfold idxI;by_cases h:j∈p
 ·rw[if_pos h,if_pos (hm.2 h)];have:∀ q:List Nat,(ni q).idxOf (j:Int)=q.idxOf j:=fun q=>by
   induction q with
   | nil=>rfl
   | cons a q ih=>
    show List.idxOf (j:Int) ((a:Int) :: ni q)=_
    rw[List.idxOf_cons,List.idxOf_cons,ih];by_cases e:a=j
    ·subst e;simp
    ·have e':((a:Int)==(j:Int))=false:=by rw[beq_eq_false_iff_ne];omega
     have e'':(a==j)=false:=by rw[beq_eq_false_iff_ne];exact e
     rw[e',e'']
  rw[this]
 ·rw[if_neg h,if_neg (fun h'=>h (hm.1 h'))]
theorem mem_ni {j:Nat}:decide ((j:Int)∈ni p)=decide (j∈p):=by
 have hm:(j:Int)∈ni p↔j∈p:=ni_mem;rw[decide_eq_decide];exact hm
theorem steps_take {a ways:List (List Rat)} {i:Nat} (h:i<a.length):(stepsQ a ways).take (i+1)=(stepsQ a ways).take i++[ways.map fun y=>dotQ a[i] y]:=by
 unfold stepsQ;rw[List.take_add_one,List.getElem?_eq_getElem (by simpa using h)];simp
theorem left_take {a:List (List Rat)} {b x:List Rat} {i:Nat} (h:i<a.length):(leftQ a b x).take (i+1)=(leftQ a b x).take i++[b.getD i 0-dotQ a[i] x]:=by
 unfold leftQ;rw[List.take_add_one,List.getElem?_eq_getElem (by simpa using h)];simp
theorem leftQ_len {a:List (List Rat)} {b x:List Rat}:(leftQ a b x).length=a.length:=by simp[leftQ]
def movedTo (x:List Rat) (ways:List (List Rat)) (s:List Rat) (k:Nat):List Rat:=x.mapIdx fun i y=>y+dotTo s (colQ ways i) k
def moveE (ways:List (List Rat)) (s:List Rat) (k i:Nat) (y:Rat):Rat:=y+s.getD k 0*atQ ways k i
theorem movedTo_len {x:List Rat} {ways:List (List Rat)} {s:List Rat} {k:Nat}:(movedTo x ways s k).length=x.length:=by simp[movedTo]
theorem movedTo_zero {x:List Rat} {ways:List (List Rat)} {s:List Rat}:movedTo x ways s 0=x:=by
 apply List.ext_getElem (by simp[movedTo])
 intro i h1 h2;simp[movedTo,dotTo,Rat.add_zero]
theorem movedTo_all {x:List Rat} {ways:List (List Rat)} {s:List Rat}:movedTo x ways s s.length=movedQ x ways s:=rfl
theorem movedTo_succ {x:List Rat} {ways:List (List Rat)} {s:List Rat} {k:Nat}:mapTo (moveE ways s k) x.length (movedTo x ways s k)=movedTo x ways s (k+1):=by
 rw[mapTo_full (by rw[movedTo_len];exact Nat.le_refl _)]
 apply List.ext_getElem (by simp[movedTo])
 intro i h1 h2;have hc:(colQ ways i).getD k 0=atQ ways k i:=by
  unfold colQ atQ;by_cases hk:k<ways.length
  ·rw[getD_is (by simpa using hk),getD_is hk];simp
  ·rw[List.getD_eq_getElem?_getD,List.getElem?_eq_none (by simpa using hk),List.getD_eq_getElem?_getD (l:=ways),List.getElem?_eq_none (by omega)];rfl
 simp only[movedTo,moveE,List.getElem_mapIdx,dotTo,hc,Rat.add_assoc]
-- sizes
theorem free_count {m:Nat} (hs:p.Pairwise (· < ·)) (hl:∀ x∈p,x<m):(waysQ t p m).length+p.length≤m:=by
 rw[waysQ_len];have hnd:(freeQ p m++p).Nodup:=by
  rw[List.nodup_append];refine⟨freeQ_nodup,hs.imp fun h=>Nat.ne_of_lt h,fun a ha b hb e=>?_⟩;subst e;unfold freeQ at ha;have:=(List.mem_filter.1 ha).2;simp[hb] at this
 have h:=hnd.length_le_of_subset (l₂:=List.range m) (fun j hj=>by
  rcases List.mem_append.1 hj with h | h
  ·exact(List.mem_filter.1 h).1
  ·exact List.mem_range.2 (hl j h))
 simpa using h
theorem point_short {l:Nat} (h:Short l t) (h1:1≤l):∀ q∈pointQ t p n,QL l l q:=fun q hq=>by
 obtain⟨j,-,rfl⟩:=List.mem_map.1 hq
 split
 ·exact h.at h1 _ _
 ·exact QL.zero1 _ _ h1
theorem way_short {l j:Nat} (h:Short l t) (h1:1≤l):∀ q∈wayQ t p n j,QL l l q:=fun q hq=>by
 obtain⟨i,-,rfl⟩:=List.mem_map.1 hq
 split
 ·exact(show QL 1 1 (1:Rat) by unfold QL;exact⟨by decide +kernel,by decide +kernel⟩).mono h1 h1
 ·split
  ·exact(h.at h1 _ _).neg
  ·exact QL.zero1 _ _ h1
theorem ways_short {l:Nat} (h:Short l t) (h1:1≤l):Short l (waysQ t p n):=fun r hr=>by
 obtain⟨j,-,rfl⟩:=List.mem_map.1 hr;exact way_short h h1
theorem steps_short {a ways:List (List Rat)} {l l':Nat} (ha:Short l a) (hw:Short l' ways) (h1:1≤l) (h2:1≤l') {m:Nat} (hwd:Wide a m):Short ((l+l'+1)*m+1) (stepsQ a ways):=fun r hr q hq=>by
 obtain⟨r',hr',rfl⟩:=List.mem_map.1 hr;obtain⟨y,hy,rfl⟩:=List.mem_map.1 hq;have:=dotTo_ql (ha r' hr') (hw y hy) h1 h2 r'.length;rw[hwd r' hr'] at this;rw[dotQ,hwd r' hr'];exact this
theorem left_short {a:List (List Rat)} {b x:List Rat} {l l':Nat} (ha:Short l a) (hb:∀ q∈b,QL l l q) (hx:∀ q∈x,QL l' l' q) (h1:1≤l) (h2:1≤l') {m:Nat} (hwd:Wide a m):∀ q∈leftQ a b x,QL (l+(l+l'+1)*m+2) (l+(l+l'+1)*m+2) q:=fun q hq=>by
 obtain⟨i,hi,rfl⟩:=List.getElem_of_mem hq;simp only[leftQ,List.length_mapIdx] at hi
 simp only[leftQ,List.getElem_mapIdx]
 have h3:=dotTo_ql (ha _ (List.getElem_mem hi)) hx h1 h2 a[i].length;rw[hwd _ (List.getElem_mem hi)] at h3;rw[dotQ,hwd _ (List.getElem_mem hi)];exact((short_getD hb h1 i).sub2 h3 (m:=l+((l+l'+1)*m+1)) (by omega) (by omega)).mono (by omega) (by omega)
theorem moved_ql {x:List Rat} {ways:List (List Rat)} {s:List Rat} {l l':Nat} (hx:∀ q∈x,QL l l q) (hs:∀ q∈s,QL l' l' q) (hw:Short l ways) (h1:1≤l) (h2:1≤l') (k i:Nat):QL (l+(l'+l+1)*k+2) (l+(l'+l+1)*k+2) ((x.getD i 0)+dotTo s (colQ ways i) k):=by
 have hc:∀ q∈colQ ways i,QL l l q:=fun q hq=>by
  obtain⟨r,hr,rfl⟩:=List.mem_map.1 hq;exact short_getD (hw r hr) h1 i
 have h3:=dotTo_ql hs hc h2 h1 k;exact((short_getD hx h1 i).add2 h3 (m:=l+((l'+l+1)*k+1)) (by omega) (by omega)).mono (by omega) (by omega)
end
def boundE (r:Nat):Nat:=growQ 4 r
def boundS (r:Nat):Nat:=(4+boundE r+1)*6+6
def boundN (r:Nat):Nat:=(boundS r+boundS r+1)*12+1
theorem bound_sizes {r k:Nat} (h:r+k≤6) (hk:1≤k):boundN r≤60000000∧3*growQ (boundN r) k≤60000000∧boundE r+(growQ (boundN r) k+boundE r+1)*k+2≤50000000:=by
 have hr:r≤5:=by omega
 have h1:growQ (boundN r) k≤growQ (boundN r) (6-r):=growQ_mono (by omega);have h2:(growQ (boundN r) k+boundE r+1)*k≤(growQ (boundN r) (6-r)+boundE r+1)*(6-r):=Nat.mul_le_mul (by omega) (by omega);have h3:boundN r≤60000000∧3*growQ (boundN r) (6-r)≤60000000∧boundE r+(growQ (boundN r) (6-r)+boundE r+1)*(6-r)+2≤50000000:=by
  rcases r with _ | _ | _ | _ | _ | _ | r
  all_goals first | decide | omega
 omega
end Go.Proofs.YtdigbofiebfkeaaGreatDoor
