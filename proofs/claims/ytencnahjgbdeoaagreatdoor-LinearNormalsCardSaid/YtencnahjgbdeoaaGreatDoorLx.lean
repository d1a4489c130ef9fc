/- Layer 35. -/
import Derived.Test.YtencnahjgbdeoaaGreatDoorLw
import Derived.Test.YtencnahjgbdeoaaGreatDoorLns
import Derived.Test.YtencnahjgbdeoaaGreatDoorLj
import Derived.Test.YtencnahjgbdeoaaGreatDoorLk
import Derived.Test.YtencnahjgbdeoaaGreatDoorLopq
namespace Go.Proofs.YtencnahjgbdeoaaGreatDoor
open Go Go.RowKit Dig
set_option linter.unusedSimpArgs false
variable {a ways:List (List Rat)} {b s x:List Rat} {i j k l l' m:Nat}
section
variable {α:Type} {k:Nat} {E:Elem α} {T TH:TypeId} {w w':World} {S:Nat→Prop} {B tb R g n:Nat} {v v' u u':Value} {l:List α} {G C:Nat→Nat} {M:List (List α)} {row:Option Nat}
theorem OB.turns (h:OB k E T w g n l) (hE:E.Soft) (ht:Turns w w' S) (hn:¬ S g):OB k E T w' g n l:=by
 have hlt:=h.lt;obtain⟨arr,h1,h2,h3,h4⟩:=h;refine⟨arr,(ht.block g hlt hn).trans h1,h2,h3,fun j hj=>?_⟩;obtain⟨cs,e1,e2,e3⟩:=h4 j hj;exact⟨cs,e1,e2,hE e3 ht.soft⟩
theorem OM.turns (h:OM k E T TH w B tb R G C M) (hE:E.Soft) (ht:Turns w w' S) (hn:¬ S tb∧∀ i,i<M.length→¬ S (G i)):OM k E T TH w' B tb R G C M:=
 ⟨h.hdr.turns aLj ht hn.1,h.cap,h.inj,h.apart,h.low,fun i hi=>(h.rows i hi).turns hE ht (hn.2 i hi)⟩
theorem OA.grown (h:OA k E T w B v l) (hE:E.Soft) (hg:w.grownBy w' row) (hr:∀ X,v.ownBlock=some X→row≠some X) (hs:Go.Proofs.YtencnahjgbdeoaaGreatDoor.Soft w w'):OA k E T w' B v l:=by
 rcases h with h | ⟨g,cap,rfl,h2,h3,h4⟩
 ·exact .inl h
 ·exact .inr ⟨g,cap,rfl,h2,h3,h4.grown hE hg (hr g (by simp[Value.ownBlock])) hs⟩
theorem OMV.grown (h:OMV k E T TH w B v G C M) (hE:E.Soft) (hg:w.grownBy w' row) (hr:(∀ X,v.ownBlock=some X→row≠some X)∧∀ i,i<M.length→row≠some (G i)) (hs:Go.Proofs.YtencnahjgbdeoaaGreatDoor.Soft w w'):OMV k E T TH w' B v G C M:=
 ⟨h.hdr.grown aLj hg hr.1 hs,h.cap,h.inj,h.apart,fun i hi=>(h.rows i hi).grown hE hg (hr.2 i hi) hs⟩
def ApartV (v u:Value) (G:Nat→Nat) (m:Nat):Prop:=∀ X,u.ownBlock=some X→v.ownBlock≠some X∧∀ i,i<m→G i≠X
theorem ApartV.nil:ApartV v (.slice none 0 0) G m:=fun X h=>by simp[Value.ownBlock] at h
theorem ApartV.push {Z b:Nat} (h:ApartV v u G m) (hu:∀ X,u.ownBlock=some X→X<Z) (hg:Z≤g) (hv:v'.ownBlock=v.ownBlock∨v'.ownBlock=some b) (hb:Z≤b):ApartV v' u (iW m g G) (m+1):=fun X hX=>by
 have hZ:=hu X hX;refine⟨fun e=>?_,fun i hi=>?_⟩
 ·rcases hv with h' | h'
  ·exact(h X hX).1 (h'▸e)
  ·rw[h'] at e;injection e with e;omega
 ·unfold iW;by_cases e:i=m
  ·rw[aEv e];omega
  ·rw[aEu e];exact(h X hX).2 i (by omega)
theorem ApartV.other {b:Nat} (h:ApartV v u G m) (hv:∀ X,v.ownBlock=some X→X<b) (hG:∀ i,i<m→G i<b) (hu:u'.ownBlock=u.ownBlock∨u'.ownBlock=some b):ApartV v u' G m:=fun X hX=>by
 rcases hu with h' | h'
 ·exact h X (h'▸hX)
 ·rw[h'] at hX;injection hX with hX
  exact⟨fun e=>by have:=hv X e;omega,fun i hi=>by have:=hG i hi;omega⟩
theorem OMV.blk {X:Nat} (h:OMV k E T TH w B v G C M) (e:v.ownBlock=some X):X<w.heap.size:=(h.hdr.blk e).1
end
theorem UH (n:Nat) (hn:n≤1000000) (w:World):(Instr.makeSlice 65 (.int .i64 (n:Int)) (.int .i64 (n:Int))).run Tryz.prog w =
  .ok (.slice (some ⟨w.heap.size,0,none⟩) n n) (w.alloc (.cells (madeCells #[.bool false,.slice none 0 0,.slice none 0 0] (n*3)) 88)):=by
 obtain⟨i,hi,hz,hs,hb⟩:=aGf iL;have h:=run_make (P:=Tryz.prog) w 65 88 i _ Tryz.underlying65 hi hz .i64 .i64 n n (by omega) (by omega) (by rw[hb];omega) (by omega);rw[h,hs];simp[Value.cells]
theorem DX (w:World) (n:Nat):OB 3 ER 88 (w.alloc (.cells (madeCells #[.bool false,.slice none 0 0,.slice none 0 0] (n*3)) 88)) w.heap.size n []:=
 OB.made (k:=3) (E:=ER) w (by decide) (by decide) n
theorem OB.put1 {T:TypeId} {w:World} {g n B:Nat} {l:List Rat} {x:Rat} (h:OB 3 ER T w g n l) {j:Nat} (hj:j<l.length) {c0 c1 c2:Value} (hx:RV w w.heap.size (.agg #[c0,c1,c2]) x) (hB:B≤g) :
  OB 3 ER T (aN w g (j*3) [c0,c1,c2]) g n (l.set j x)∧Below B w (aN w g (j*3) [c0,c1,c2])∧Go.Proofs.YtencnahjgbdeoaaGreatDoor.Soft w (aN w g (j*3) [c0,c1,c2]):=
 ⟨h.set aKb ER.free j hj (cs:=[c0,c1,c2]) rfl ⟨_,_,_,rfl,hx⟩,bS hB (aDy B w),h.softs ER.free (cs:=[c0,c1,c2]) (p:=j*3) (by have:=h.len;simp;omega)⟩
theorem OB.push1 {T:TypeId} {w:World} {g n B:Nat} {l:List Rat} {x:Rat} (h:OB 3 ER T w g n l) {j:Nat} (hj:j=l.length) (hn:j<n) {c0 c1 c2:Value} (hx:RV w w.heap.size (.agg #[c0,c1,c2]) x) (hB:B≤g) :
  OB 3 ER T (aN w g (j*3) [c0,c1,c2]) g n (l++[x])∧Below B w (aN w g (j*3) [c0,c1,c2])∧Go.Proofs.YtencnahjgbdeoaaGreatDoor.Soft w (aN w g (j*3) [c0,c1,c2]):=by
 subst hj;exact⟨h.push aKb ER.free hn (cs:=[c0,c1,c2]) rfl ⟨_,_,_,rfl,hx⟩,bS hB (aDy B w),h.softs ER.free (cs:=[c0,c1,c2]) (p:=l.length*3) (by simp;omega)⟩
-- plain
def JN (t:List (List Rat)) (p:List Nat) (n j:Nat):Rat:=if j∈p then bP t (p.idxOf j) n else 0
def PG (t:List (List Rat)) (p:List Nat) (j i:Nat):Rat:=if i=j then 1 else if i∈p then -(bP t (p.idxOf i) j) else 0
section
variable {t:List (List Rat)} {p:List Nat} {n:Nat}
theorem nR {α:Type} {f:Nat→α} (h:j<n):((List.range n).map f).take (j+1)=((List.range n).map f).take j++[f j]:=by
 rw[aFj,aEh (by simpa using h)];simp
theorem IK (h:j<n):(eE t p n).take (j+1)=(eE t p n).take j++[JN t p n j]:=nR h
theorem PU (h:i<n):(qL t p n j).take (i+1)=(qL t p n j).take i++[PG t p j i]:=nR h
theorem qX:(qL t p n j).length=n:=by simp[qL]
def iT (t:List (List Rat)) (p:List Nat) (n j:Nat):List (List Rat):=((List.range j).filter fun j=>!decide (j∈p)).map (qL t p n)
theorem PQ (h:j∈p):iT t p n (j+1)=iT t p n j:=by
 unfold iT;rw[aNm,List.filter_append];simp[h]
theorem JZ (h:j∉p):iT t p n (j+1)=iT t p n j++[qL t p n j]:=by
 unfold iT;rw[aNm,List.filter_append];simp[h]
theorem KA:iT t p n n=gX t p n:=rfl
theorem PO:(iT t p n j).length≤j:=by
 unfold iT;rw[aEb];exact aEg (List.length_filter_le _ _) (by simp)
theorem GN:Wide (iT t p n j) n:=fun r hr=>by
 obtain⟨i,-,rfl⟩:=aFc.1 hr;exact qX
theorem UE:(j:Int)∈ni p↔j∈p:=by
 unfold ni;rw[aFc];exact⟨fun⟨a,h1,h2⟩=>by rw[← show a=j by omega];exact h1,fun h=>⟨j,h,rfl⟩⟩
theorem UJ:AG (ni p) (j:Int)=if j∈p then ((p.idxOf j:Nat):Int) else -1:=by
 have hm:(j:Int)∈ni p↔j∈p:=UE;unfold AG;by_cases h:j∈p
 ·rw[aEv h,aEv (hm.2 h)];have:∀ q:List Nat,(ni q).idxOf (j:Int)=q.idxOf j:=fun q=>by
   induction q with
   | nil=>rfl
   | cons a q ih=>
    show List.idxOf (j:Int) ((a:Int) :: ni q)=_
    rw[List.idxOf_cons,List.idxOf_cons,ih];by_cases e:a=j
    ·subst e;simp
    ·have e':((a:Int)==(j:Int))=false:=by rw[aEo];omega
     have e'':(a==j)=false:=by rw[aEo];exact e
     rw[e',e'']
  rw[this]
 ·rw[aEu h,aEu (fun h'=>h (hm.1 h'))]
theorem aBh:decide ((j:Int)∈ni p)=decide (j∈p):=by
 have hm:(j:Int)∈ni p↔j∈p:=UE;rw[aIu];exact hm
theorem KL (h:i<a.length):(gH a ways).take (i+1)=(gH a ways).take i++[ways.map fun y=>bK a[i] y]:=by
 unfold gH;rw[aFj,aEh (by simpa using h)];simp
theorem SK (h:i<a.length):(mN a b x).take (i+1)=(mN a b x).take i++[b.getD i 0-bK a[i] x]:=by
 unfold mN;rw[aFj,aEh (by simpa using h)];simp
theorem SN:(mN a b x).length=a.length:=by simp[mN]
def cM (x:List Rat) (ways:List (List Rat)) (s:List Rat) (k:Nat):List Rat:=x.mapIdx fun i y=>y+aJ s (dD ways i) k
def oZ (ways:List (List Rat)) (s:List Rat) (k i:Nat) (y:Rat):Rat:=y+s.getD k 0*bP ways k i
theorem nN:(cM x ways s k).length=x.length:=by simp[cM]
theorem BX:cM x ways s 0=x:=by
 apply aGx (by simp[cM])
 intro i h1 h2;simp[cM,aJ,aIv]
theorem IT:cM x ways s s.length=kQ x ways s:=rfl
theorem BZ:mapTo (oZ ways s k) x.length (cM x ways s k)=cM x ways s (k+1):=by
 rw[jU (by rw[nN];exact aEa _)]
 apply aGx (by simp[cM])
 intro i h1 h2;have hc:(dD ways i).getD k 0=bP ways k i:=by
  unfold dD bP;by_cases hk:k<ways.length
  ·rw[aG (by simpa using hk),aG hk];simp
  ·rw[aEi,aFm (by simpa using hk),aEi (l:=ways),aFm (by omega)];rfl
 simp only[cM,oZ,aGy,aJ,hc,Rat.add_assoc]
-- sizes
theorem LQ (hs:p.Pairwise (· < ·)) (hl:∀ x∈p,x<m):(gX t p m).length+p.length≤m:=by
 rw[PR];have hnd:(CR p m++p).Nodup:=by
  rw[List.nodup_append];refine⟨IW,hs.imp fun h=>Nat.ne_of_lt h,fun a ha b hb e=>?_⟩;subst e;unfold CR at ha;have:=(List.mem_filter.1 ha).2;simp[hb] at this
 have h:=hnd.length_le_of_subset (l₂:=List.range m) (fun j hj=>by
  rcases aGb.1 hj with h | h
  ·exact(List.mem_filter.1 h).1
  ·exact aKt.2 (hl j h))
 simpa using h
theorem IJ (h:Short l t) (h1:1≤l):∀ q∈eE t p n,QL l l q:=fun q hq=>by
 obtain⟨j,-,rfl⟩:=aFc.1 hq
 split
 ·exact h.at h1 _ _
 ·exact QL.zero1 _ _ h1
theorem PS (h:Short l t) (h1:1≤l):∀ q∈qL t p n j,QL l l q:=fun q hq=>by
 obtain⟨i,-,rfl⟩:=aFc.1 hq
 split
 ·exact(show QL 1 1 (1:Rat) by unfold QL;exact⟨by decide +kernel,by decide +kernel⟩).mono h1 h1
 ·split
  ·exact(h.at h1 _ _).neg
  ·exact QL.zero1 _ _ h1
theorem JY (h:Short l t) (h1:1≤l):Short l (gX t p n):=fun r hr=>by
 obtain⟨j,-,rfl⟩:=aFc.1 hr;exact PS h h1
theorem GQ (ha:Short l a) (hw:Short l' ways) (h1:1≤l) (h2:1≤l') {m:Nat} (hwd:Wide a m):Short ((l+l'+1)*m+1) (gH a ways):=fun r hr q hq=>by
 obtain⟨r',hr',rfl⟩:=aFc.1 hr;obtain⟨y,hy,rfl⟩:=aFc.1 hq;have:=eD (ha r' hr') (hw y hy) h1 h2 r'.length;rw[hwd r' hr'] at this;rw[bK,hwd r' hr'];exact this
theorem LJ (ha:Short l a) (hb:∀ q∈b,QL l l q) (hx:∀ q∈x,QL l' l' q) (h1:1≤l) (h2:1≤l') {m:Nat} (hwd:Wide a m):∀ q∈mN a b x,QL (l+(l+l'+1)*m+2) (l+(l+l'+1)*m+2) q:=fun q hq=>by
 obtain⟨i,hi,rfl⟩:=aKq hq;simp only[mN,aLb] at hi
 simp only[mN,aGy]
 have h3:=eD (ha _ (aEc hi)) hx h1 h2 a[i].length;rw[hwd _ (aEc hi)] at h3;rw[bK,hwd _ (aEc hi)];exact((aT hb h1 i).sub2 h3 (m:=l+((l+l'+1)*m+1)) (by omega) (by omega)).mono (by omega) (by omega)
theorem DW (hx:∀ q∈x,QL l l q) (hs:∀ q∈s,QL l' l' q) (hw:Short l ways) (h1:1≤l) (h2:1≤l') (k i:Nat):QL (l+(l'+l+1)*k+2) (l+(l'+l+1)*k+2) ((x.getD i 0)+aJ s (dD ways i) k):=by
 have hc:∀ q∈dD ways i,QL l l q:=fun q hq=>by
  obtain⟨r,hr,rfl⟩:=aFc.1 hq;exact aT (hw r hr) h1 i
 have h3:=eD hs hc h2 h1 k;exact((aT hx h1 i).add2 h3 (m:=l+((l'+l+1)*k+1)) (by omega) (by omega)).mono (by omega) (by omega)
end
def dG (r:Nat):Nat:=dE 4 r
def dR (r:Nat):Nat:=(4+dG r+1)*6+6
def cH (r:Nat):Nat:=(dR r+dR r+1)*12+1
theorem JD {r:Nat} (h:r+k≤6) (hk:1≤k):cH r≤60000000∧3*dE (cH r) k≤60000000∧dG r+(dE (cH r) k+dG r+1)*k+2≤50000000:=by
 have hr:r≤5:=by omega
 have h1:dE (cH r) k≤dE (cH r) (6-r):=cE (by omega);have h2:(dE (cH r) k+dG r+1)*k≤(dE (cH r) (6-r)+dG r+1)*(6-r):=aGs (by omega) (by omega);have h3:cH r≤60000000∧3*dE (cH r) (6-r)≤60000000∧dG r+(dE (cH r) (6-r)+dG r+1)*(6-r)+2≤50000000:=by
  rcases r with _ | _ | _ | _ | _ | _ | r
  all_goals first | decide | omega
 omega
end Go.Proofs.YtencnahjgbdeoaaGreatDoor
