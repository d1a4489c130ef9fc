/- Texts put together. -/
import Derived.Test.YtencnahjgbdeoaaGreatDoorQJ
import Derived.Test.YtencnahjgbdeoaaGreatDoorQa
import Derived.Laws.Cells
import Derived.Test.YtencnahjgbdeoaaGreatDoorQI
import Derived.Laws.AppendOwn
namespace Go.Proofs.YtencnahjgbdeoaaGreatDoor
open Go Go.RowKit Dig
set_option linter.unusedSimpArgs false
variable {B L a b g i j k m n:Nat} {P:Program} {p:List Nat} {q:Rat} {r:List Rat} {t:List (List Rat)} {w:World} {z:Array Value}
def aJ (r s:List Rat):Nat→Rat
 | 0=>0
 | k+1=>aJ r s k+r.getD k 0*s.getD k 0
def bK (r s:List Rat):Rat:=aJ r s r.length
theorem wP (r s:List Rat):∀ k,aJ r s k=aJ s r k
 | 0=>rfl
 | k+1=>by rw[aJ,aJ,wP r s k,Rat.mul_comm]
theorem zM {s:List Rat} (h:r.length=s.length):bK r s=bK s r:=by rw[bK,bK,h,wP]
def bP (t:List (List Rat)) (i j:Nat):Rat:=(t.getD i []).getD j 0
def dD (a:List (List Rat)) (j:Nat):List Rat:=a.map fun r=>r.getD j 0
def aM (a:List (List Rat)):Nat:=(a.getD 0 []).length
def cI (a:List (List Rat)):List (List Rat):=(List.range (aM a)).map (dD a)
def bB (a:List (List Rat)):List (List Rat):=(cI a).map fun c=>(cI a).map fun d=>bK c d
def bG (a:List (List Rat)) (b:List Rat):List Rat:=(cI a).map fun c=>bK c b
def bM (a:List (List Rat)) (b:List Rat):List (List Rat):=a.mapIdx fun i r=>r++[b.getD i 0]
def pH (t:List (List Rat)) (j:Nat):Nat→Nat→Nat
 | 0,i=>i
 | f+1,i=>if bP t i j=0 then pH t j f (i+1) else i
def pivQ (t:List (List Rat)) (j a:Nat):Nat:=pH t j (t.length-a) a
theorem NR (t:List (List Rat)) (j:Nat):∀ (f i0 i:Nat),i0≤i→i≤i0+f→(∀ k,i0≤k→k<i→bP t k j=0)→(i<i0+f→bP t i j≠0)→pH t j f i0=i
 | 0,i0,i,h1,h2,_,_=>by show i0=i;omega
 | f+1,i0,i,h1,h2,h3,h4=>by
  unfold pH;by_cases e:bP t i0 j=0
  ·rw[aEv e];have hne:i0≠i:=fun h=>h4 (by omega) (h▸e)
   exact NR t j f (i0+1) i (by omega) (by omega) (fun k hk hk'=>h3 k (by omega) hk') (fun h=>h4 (by omega))
  ·rw[aEu e];rcases aFk i0 i with h | h
   ·exact absurd (h3 i0 (aEa _) h) e
   ·omega
theorem BG (h1:a≤i) (h2:i≤t.length) (h3:∀ k,a≤k→k<i→bP t k j=0) (h4:i<t.length→bP t i j≠0):pivQ t j a=i:=
 NR t j _ _ _ h1 (by omega) h3 (fun h=>h4 (by omega))
theorem gD (t:List (List Rat)) (j:Nat):∀ (f i0:Nat),i0≤pH t j f i0∧pH t j f i0≤i0+f∧(∀ k,i0≤k→k<pH t j f i0→bP t k j=0)∧(pH t j f i0<i0+f→bP t (pH t j f i0) j≠0)
 | 0,i0=>⟨aEa _,aEa _,fun k h1 h2=>by unfold pH at h2;omega,fun h=>by unfold pH at h;omega⟩
 | f+1,i0=>by
  unfold pH;by_cases e:bP t i0 j=0
  ·rw[aEv e];obtain⟨h1,h2,h3,h4⟩:=gD t j f (i0+1);refine⟨by omega,by omega,fun k hk hk'=>?_,fun h=>h4 (by omega)⟩;rcases Nat.eq_or_lt_of_le hk with rfl | h
   ·exact e
   ·exact h3 k h hk'
  ·rw[aEu e];exact⟨aEa _,by omega,fun k hk hk'=>by omega,fun _=>e⟩
theorem BF (h:a≤t.length):pivQ t j a≤t.length:=by have:=(gD t j (t.length-a) a).2.1;unfold pivQ;omega
theorem lV:a≤pivQ t j a:=(gD t j (t.length-a) a).1
theorem uE (h:pivQ t j a<t.length):bP t (pivQ t j a) j≠0:=by
 have h4:=(gD t j (t.length-a) a).2.2.2;refine h4 ?_;have h1:a≤pH t j (t.length-a) a:=(gD t j (t.length-a) a).1;have h2:pH t j (t.length-a) a<t.length:=h
 omega
def dM (t:List (List Rat)) (a i:Nat):List (List Rat):=(t.set a (t.getD i [])).set i (t.getD a [])
def AH (r:List Rat) (p:Rat):List Rat:=r.map fun x=>x / p
def pF (r:List Rat) (f:Rat) (p:List Rat):List Rat:=r.mapIdx fun k x=>x-f*p.getD k 0
def iD (t:List (List Rat)) (a j:Nat):List Rat:=AH (t.getD a []) (bP t a j)
def clearQ (t:List (List Rat)) (a j:Nat):List (List Rat):=t.mapIdx fun i r=>if i=a then iD t a j else pF r (r.getD j 0) (iD t a j)
def dX (t:List (List Rat)) (p:List Nat) (j:Nat):List (List Rat) × List Nat:=
 if pivQ t j p.length<t.length then (clearQ (dM t p.length (pivQ t j p.length)) p.length j,p++[j]) else (t,p)
def elimQ (t:List (List Rat)):Nat→List (List Rat) × List Nat
 | 0=>(t,[])
 | j+1=>dX (elimQ t j).1 (elimQ t j).2 j
def solvQ (e:List (List Rat) × List Nat) (n:Nat):Bool:=pivQ e.1 n e.2.length==e.1.length
def jL (t:List (List Rat)) (n:Nat):List Rat:=(List.range n).map fun i=>bP t i n
def aZ (a:List (List Rat)) (b:List Rat):Option (List Rat):=
 if solvQ (elimQ (bM a b) (aM a)) (aM a)=true∧(elimQ (bM a b) (aM a)).2.length=aM a then some (jL (elimQ (bM a b) (aM a)).1 (aM a)) else none
-- lengths
theorem cO (t:List (List Rat)) (a i:Nat):(dM t a i).length=t.length:=by simp[dM]
theorem dH (t:List (List Rat)) (a j:Nat):(clearQ t a j).length=t.length:=by simp[clearQ]
theorem vG (r:List Rat) (f:Rat) (p:List Rat):(pF r f p).length=r.length:=by simp[pF]
theorem vR (r:List Rat) (p:Rat):(AH r p).length=r.length:=by simp[AH]
theorem QY (t:List (List Rat)) (p:List Nat) (j:Nat):(dX t p j).1.length=t.length:=by
 unfold dX
 split
 ·show(clearQ _ _ _).length=_;rw[dH,cO]
 ·rfl
theorem eL (t:List (List Rat)):∀ j,(elimQ t j).1.length=t.length
 | 0=>rfl
 | j+1=>by rw[elimQ,QY,eL t j]
def Wide (t:List (List Rat)) (m:Nat):Prop:=∀ r∈t,r.length=m
theorem Wide.getD (h:Wide t m) (hi:i<t.length):(t.getD i []).length=m:=by
 rw[aEi,aEh hi,aIw];exact h _ (aEc hi)
theorem Wide.set (h:Wide t m) (hr:r.length=m):Wide (t.set i r) m:=by
 intro s hs;rcases aLr hs with h1 | h1
 ·exact h _ h1
 ·rw[h1];exact hr
theorem Wide.swap (h:Wide t m) (ha:a<t.length) (hi:i<t.length):Wide (dM t a i) m:=(h.set (h.getD hi)).set (h.getD ha)
theorem Wide.clear (h:Wide t m) (ha:a<t.length):Wide (clearQ t a j) m:=by
 intro r hr;unfold clearQ at hr;obtain⟨i,hi,rfl⟩:=aLg.1 hr
 split
 ·rw[iD,vR];exact h.getD ha
 ·rw[vG];exact h _ (aEc hi)
theorem Wide.step (h:Wide t m):Wide (dX t p j).1 m:=by
 unfold dX
 split
 ·rename_i hp
  have h1:p.length≤pivQ t j p.length:=lV;exact Wide.clear (h.swap (by omega) hp) (by rw[cO];omega)
 ·exact h
theorem Wide.elim (h:Wide t m):∀ j,Wide (elimQ t j).1 m
 | 0=>h
 | j+1=>(Wide.elim h j).step
theorem QU (t:List (List Rat)) (p:List Nat) (j:Nat) (hp:p.length≤t.length):(dX t p j).2.length≤t.length∧(dX t p j).2.length≤p.length+1:=by
 unfold dX
 split
 ·rename_i h
  have h1:p.length≤pivQ t j p.length:=lV;simp;omega
 ·exact⟨hp,Nat.le_succ _⟩
theorem jG (t:List (List Rat)):∀ j,(elimQ t j).2.length≤t.length∧(elimQ t j).2.length≤j
 | 0=>⟨aEy _,aEa _⟩
 | j+1=>by
  obtain⟨h1,h2⟩:=jG t j;obtain⟨h3,h4⟩:=QU (elimQ t j).1 (elimQ t j).2 j (by rw[eL];exact h1);rw[eL] at h3;exact⟨h3,by unfold elimQ;omega⟩
-- sizes
theorem QL.add2 {a' b':Nat} {r:Rat} (h:QL a b q) (k:QL a' b' r) (h1:a+b'≤m) (h2:a'+b≤m):QL (m+1) (b+b') (q+r):=by
 rw[Rat.add_def'];refine QL.mk' ?_ (aEg (dB _ _) (Nat.add_le_add h.2 k.2)) (Nat.mul_ne_zero q.den_nz r.den_nz);have e1:(dig (q.num*r.den).natAbs).length≤m:=by rw[aGi,aEr];have:=dB q.num.natAbs r.den;have:=h.1;have:=k.2;omega
 have e2:(dig (r.num*q.den).natAbs).length≤m:=by rw[aGi,aEr];have:=dB r.num.natAbs q.den;have:=k.1;have:=h.2;omega
 exact aEg (aL (Int.natAbs_add_le _ _)) (kN _ _ e1 e2)
theorem QL.sub2 {a' b':Nat} {r:Rat} (h:QL a b q) (k:QL a' b' r) (h1:a+b'≤m) (h2:a'+b≤m):QL (m+1) (b+b') (q-r):=by
 rw[aHe];exact h.add2 k.neg h1 h2
theorem QL.zero1 (a b:Nat) (hb:1≤b):QL a b (0:Rat):=by
 refine QL.mono (a:=0) (b:=1) ⟨?_,?_⟩ (aEy _) hb
 ·exact aU.2 (by decide)
 ·exact aU.2 (by decide)
def Short (L:Nat) (t:List (List Rat)):Prop:=∀ r∈t,∀ q∈r,QL L L q
theorem aT (h:∀ q∈r,QL L L q) (hL:1≤L) (k:Nat):QL L L (r.getD k 0):=by
 rw[aEi];rcases aFk k r.length with hk | hk
 ·rw[aEh hk,aIw];exact h _ (aEc hk)
 ·rw[aFm hk,aMx];exact QL.zero1 _ _ hL
theorem Short.row (h:Short L t) (i:Nat):∀ q∈t.getD i [],QL L L q:=by
 rw[aEi];rcases aFk i t.length with hi | hi
 ·rw[aEh hi,aIw];exact h _ (aEc hi)
 ·rw[aFm hi,aMx];intro q hq;cases hq
theorem Short.at (h:Short L t) (hL:1≤L) (i j:Nat):QL L L (bP t i j):=aT (h.row i) hL j
theorem Short.mono {L':Nat} (h:Short L t) (hl:L≤L'):Short L' t:=fun r hr q hq=>(h r hr q hq).mono hl hl
theorem Short.set (h:Short L t) (hr:∀ q∈r,QL L L q):Short L (t.set i r):=by
 intro s hs;rcases aLr hs with h1 | h1
 ·exact h _ h1
 ·rw[h1];exact hr
theorem Short.swap (h:Short L t):Short L (dM t a i):=(h.set (h.row i)).set (h.row a)
theorem wQ {p:Rat} (h:∀ q∈r,QL L L q) (hp:QL L L p) (h0:p≠0):∀ q∈AH r p,QL (2*L) (2*L) q:=by
 intro q hq;obtain⟨x,hx,rfl⟩:=aFc.1 hq;exact((h x hx).div hp h0).mono (by omega) (by omega)
theorem KI {p:List Rat} {f:Rat} (h:∀ q∈r,QL L L q) (hf:QL L L f) (hp:∀ q∈p,QL (2*L) (2*L) q) (hL:1≤L):∀ q∈pF r f p,QL (4*L+1) (4*L+1) q:=by
 intro q hq;unfold pF at hq;obtain⟨i,hi,rfl⟩:=aLg.1 hq;have h1:=h _ (aEc hi);have h2:=hf.mul (aT hp (by omega) i);exact(h1.sub2 h2 (m:=4*L) (by omega) (by omega)).mono (by omega) (by omega)
theorem Short.clear (h:Short L t) (hL:1≤L) (h0:bP t a j≠0):Short (4*L+1) (clearQ t a j):=by
 have hd:=wQ (h.row a) (h.at hL a j) h0;intro r hr;unfold clearQ at hr;obtain⟨i,hi,rfl⟩:=aLg.1 hr
 split
 ·exact fun q hq=>(hd q hq).mono (by omega) (by omega)
 ·exact KI (h _ (aEc hi)) (aT (h _ (aEc hi)) hL j) hd hL
theorem mV (ha:a<t.length) (hi:i<t.length):bP (dM t a i) a j=bP t i j:=by
 unfold bP dM;simp only[aEi,List.getElem?_set]
 by_cases h:i=a
 ·subst h;simp[hi]
 ·simp[h,ha]
theorem Short.step (h:Short L t) (hL:1≤L):Short (4*L+1) (dX t p j).1:=by
 unfold dX
 split
 ·rename_i hp
  have h1:p.length≤pivQ t j p.length:=lV;exact h.swap.clear hL (by rw[mV (by omega) hp];exact uE hp)
 ·exact h.mono (by omega)
def dE (L:Nat):Nat→Nat
 | 0=>L
 | k+1=>4*dE L k+1
theorem cG (h:1≤L):∀ k,1≤dE L k
 | 0=>h
 | k+1=>by unfold dE;omega
theorem cE {k':Nat} (h:k≤k'):dE L k≤dE L k':=by
 induction h with
 | refl=>exact aEa _
 | @step m _ ih=>exact aEg ih (show dE L m≤4*dE L m+1 by omega)
theorem Short.elim (h:Short L t) (hL:1≤L):∀ j,Short (dE L (elimQ t j).2.length) (elimQ t j).1
 | 0=>h
 | j+1=>by
  have ih:=Short.elim h hL j
  show Short (dE L (dX (elimQ t j).1 (elimQ t j).2 j).2.length) (dX (elimQ t j).1 (elimQ t j).2 j).1
  have h1:=ih.step (j:=j) (p:=(elimQ t j).2) (cG hL _);unfold dX at h1 ⊢
  split
  ·rename_i hp
   rw[aEv hp] at h1
   simpa[dE] using h1
  ·exact ih
def cellsAt (w:World) (g p:Nat) (cs:List Value):Prop:=∀ (i:Nat) (v:Value),cs[i]?=some v→w.cell? ⟨g,p+i,none⟩=some v
theorem cellsAt.below {w':World} {p:Nat} {cs:List Value} (h:cellsAt w g p cs) (hg:g<B) (hb:Below B w w'):cellsAt w' g p cs:=fun i v hv=>(hb.cell (p:=⟨g,p+i,none⟩) hg).trans (h i v hv)
abbrev Elem (α:Type):=World→Nat→List Value→α→Prop
structure Elem.Stable {α:Type} (E:Elem α):Prop where
 below:∀ {w w':World} {B:Nat} {cs:List Value} {a:α},E w B cs a→Below B w w'→E w' B cs a
 more:∀ {w:World} {B B':Nat} {cs:List Value} {a:α},E w B cs a→B≤B'→E w B' cs a
def SL {α:Type} (k:Nat) (E:Elem α) (w:World) (B:Nat) (v:Value) (l:List α):Prop:=
 ∃ A c,v=.slice A l.length c∧l.length≤c∧c≤9223372036854775807∧(0<l.length→∃ g off,A=some ⟨g,off,none⟩∧g<B∧∀ j (h:j<l.length),∃ cs,cs.length=k∧cellsAt w g (off+j*k) cs∧E w B cs l[j])
section
variable {α:Type} {k:Nat} {E:Elem α} {w w':World} {B B':Nat} {v:Value} {l:List α}
theorem SL.below (h:SL k E w B v l) (hE:E.Stable) (hb:Below B w w'):SL k E w' B v l:=by
 obtain⟨A,c,hv,h1,h2,h0⟩:=h;refine⟨A,c,hv,h1,h2,fun hn=>?_⟩;obtain⟨g,off,hA,hg,hx⟩:=h0 hn;refine⟨g,off,hA,hg,fun j hj=>?_⟩;obtain⟨cs,e1,e2,e3⟩:=hx j hj;exact⟨cs,e1,e2.below hg hb,hE.below e3 hb⟩
theorem SL.more (h:SL k E w B v l) (hE:E.Stable) (hB:B≤B'):SL k E w B' v l:=by
 obtain⟨A,c,hv,h1,h2,h0⟩:=h;refine⟨A,c,hv,h1,h2,fun hn=>?_⟩;obtain⟨g,off,hA,hg,hx⟩:=h0 hn;refine⟨g,off,hA,aEt hg hB,fun j hj=>?_⟩;obtain⟨cs,e1,e2,e3⟩:=hx j hj;exact⟨cs,e1,e2,hE.more e3 hB⟩
theorem SL.step (h:SL k E w w.heap.size v l) (hE:E.Stable) (hb:Below w.heap.size w w'):SL k E w' w'.heap.size v l:=(h.below hE hb).more hE hb.size
abbrev aHo:=@SL.step
theorem SL.slice (h:SL k E w B v l):∃ A c,v=.slice A l.length c∧l.length≤c∧c≤9223372036854775807:=by obtain⟨A,c,e,h1,h2,-⟩:=h;exact⟨A,c,e,h1,h2⟩
abbrev aHi:=@SL.slice
theorem SL.nil (k:Nat) (E:Elem α) (w:World) (B:Nat):SL k E w B (.slice none 0 0) []:=⟨none,0,rfl,aEa _,by omega,fun h=>absurd h (by simp)⟩
def SE (k:Nat) (E:Elem α):Elem (List α):=fun w B cs l=>∃ v,cs=[v]∧SL k E w B v l
theorem SE.stable (hE:E.Stable):(SE k E).Stable:=⟨fun⟨v,e,h⟩ hb=>⟨v,e,h.below hE hb⟩,fun⟨v,e,h⟩ hB=>⟨v,e,h.more hE hB⟩⟩
abbrev aFl:=@SE.stable
end
abbrev QX:=(Bool × List Int) × (Bool × List Int)
def EQ:Elem QX:=fun w B cs x=>∃ c0 c1 c2 c3,cs=[c0,c1,c2,c3]∧QR w B (.agg #[c0,c1,c2,c3]) x.1.1 x.1.2 x.2.1 x.2.2
def ER:Elem Rat:=fun w B cs q=>∃ c0 c1 c2,cs=[c0,c1,c2]∧RV w B (.agg #[c0,c1,c2]) q
theorem EQ.stable:Elem.Stable EQ:=⟨fun⟨c0,c1,c2,c3,e,A,l,c,A',l',c',e',h1,h2⟩ hb=>⟨c0,c1,c2,c3,e,A,l,c,A',l',c',e',h1.below hb,h2.below hb⟩,fun⟨c0,c1,c2,c3,e,A,l,c,A',l',c',e',h1,h2⟩ hB=>⟨c0,c1,c2,c3,e,A,l,c,A',l',c',e',h1.more hB,h2.more hB⟩⟩
abbrev aEf:=@EQ.stable
theorem ER.stable:Elem.Stable ER:=⟨fun⟨c0,c1,c2,e,n,A,l,c,A',l',c',e',h1,h2,h3⟩ hb=>⟨c0,c1,c2,e,n,A,l,c,A',l',c',e',RI.below h1 hb,RI.below h2 hb,h3⟩,fun⟨c0,c1,c2,e,n,A,l,c,A',l',c',e',h1,h2,h3⟩ hB=>⟨c0,c1,c2,e,n,A,l,c,A',l',c',e',RI.more h1 hB,RI.more h2 hB,h3⟩⟩
abbrev aEw:=@ER.stable
abbrev QS:=SL 4 EQ
abbrev QM:=SL 1 (SE 4 EQ)
abbrev RS:=SL 3 ER
abbrev RM:=SL 1 (SE 3 ER)
def qx (q:Rat):QX:=((decide (q.num<0),ni (dig q.num.natAbs)),(false,ni (dig q.den)))
theorem QR.qv {v:Value} (h:QR w B v (qx q).1.1 (qx q).1.2 (qx q).2.1 (qx q).2.2):QV w B v q:=by
 obtain⟨A,l,c,A',l',c',rfl,h1,h2⟩:=h;exact⟨_,A,l,c,A',l',c',rfl,h1,h2,rfl⟩
-- loads and stores of an element
section
variable {P:Program}
theorem rJ (g p i:Nat):(⟨g,p,none⟩:Addr).add i=⟨g,p+i,none⟩:=by unfold Addr.add;split <;> simp_all
end
noncomputable def qv (x:QX):Option Rat:=nS x.1.1 x.1.2 x.2.1 x.2.2
theorem NQ {x:QX} (h:qv x=some q):x=qx q:=by
 obtain⟨h1,h2⟩:=DM h;obtain⟨-,e1,e2,-⟩:=rC h1;obtain⟨-,e3,e4,-⟩:=rC h2;obtain⟨⟨n,a⟩,m,b⟩:=x;simp only at e1 e2 e3 e4
 subst e1;subst e2;subst e3;subst e4;unfold qx;rw[aEr,show decide ((q.den:Int)<0)=false from aEe (by omega)]
noncomputable def eC (x:QX):Bool:=(qv x).isSome&&(decide (x.1.2.length≤4)&&decide (x.2.2.length≤4))
noncomputable def dC (l:List QX):Bool:=(decide (1≤l.length)&&decide (l.length≤12))&&l.all eC
noncomputable def eA (M:List (List QX)):Bool:=(decide (1≤M.length)&&decide (M.length≤12))&&M.all fun r=>(decide (r.length≤6)&&decide (r.length=(M.getD 0 []).length))&&dC r
noncomputable def aW (l:List QX):List Rat:=l.map fun x=>(qv x).getD 0
theorem qY {x:QX} (h:eC x=true):x=qx ((qv x).getD 0)∧QL 4 4 ((qv x).getD 0):=by
 unfold eC at h;simp only[aFs,aHc] at h
 obtain⟨h1,h2,h3⟩:=h;obtain⟨q,hq⟩:=Option.isSome_iff_exists.1 h1;have e:=NQ hq;rw[hq,aIw];refine⟨e,?_,?_⟩
 ·rw[e] at h2;simpa[qx,aC] using h2
 ·rw[e] at h3;simpa[qx,aC] using h3
theorem fM {l:List QX} (h:dC l=true):l=(aW l).map qx∧(∀ q∈aW l,QL 4 4 q)∧1≤l.length∧l.length≤12:=by
 unfold dC at h;simp only[aFs,aHc,aEx] at h
 obtain⟨⟨h1,h2⟩,h3⟩:=h;refine⟨?_,fun q hq=>?_,h1,h2⟩
 ·unfold aW;rw[List.map_map]
  conv=>lhs;rw[← List.map_id l]
  exact aKp fun x hx=>(qY (h3 x hx)).1
 ·obtain⟨x,hx,rfl⟩:=aFc.1 hq;exact(qY (h3 x hx)).2
noncomputable def aK (M:List (List QX)):List (List Rat):=M.map aW
theorem jM {M:List (List QX)} (h:eA M=true):M=(aK M).map (List.map qx)∧Short 4 (aK M)∧Wide (aK M) (aM (aK M))∧1≤M.length∧M.length≤12∧1≤aM (aK M)∧aM (aK M)≤6:=by
 unfold eA at h;simp only[aFs,aHc,aEx] at h
 obtain⟨⟨h1,h2⟩,h3⟩:=h;have hw:aM (aK M)=(M.getD 0 []).length:=by
  cases M with
  | nil=>rfl
  | cons r t=>simp[aM,aK,aW]
 refine⟨?_,?_,?_,h1,h2,?_,?_⟩
 ·unfold aK;rw[List.map_map]
  conv=>lhs;rw[← List.map_id M]
  exact aKp fun r hr=>(fM (h3 r hr).2).1
 ·intro r hr;obtain⟨x,hx,rfl⟩:=aFc.1 hr;exact(fM (h3 x hx).2).2.1
 ·intro r hr;obtain⟨x,hx,rfl⟩:=aFc.1 hr;rw[hw,aW,aEb];exact(h3 x hx).1.2
 ·cases M with
  | nil=>simp at h1
  | cons r t=>rw[hw];have:=(fM (h3 r (by simp)).2).2.2.1;simpa using this
 ·cases M with
  | nil=>simp at h1
  | cons r t=>rw[hw];have:=(h3 r (by simp)).1.1;simpa using this
def fO (l:List Rat):Option (List Rat) × Int:=if ∀ q∈l,eS q then (some l,0) else (none,6)
def mM:Option (List Rat)→Option (List Rat) × Int
 | some l=>fO l
 | none=>(none,7)
noncomputable def gI (M:List (List QX)) (b:List QX):Option (List Rat) × Int:=
 if eA M=true∧dC b=true then if b.length=M.length∧M.length=(M.getD 0 []).length then mM (aZ (aK M) (aW b)) else (none,2) else (none,350)
noncomputable def dZ (M:List (List QX)) (b:List QX):Option (List (List Rat) × List Rat) × Int:=
 if eA M=true∧dC b=true then if b.length=M.length then
  if (∀ r∈bB (aK M),∀ q∈r,eS q)∧∀ q∈bG (aK M) (aW b),eS q then (some (bB (aK M),bG (aK M) (aW b)),0) else (none,6) else (none,2) else (none,350)
def fP (a:List (List Rat)) (b x:List Rat):List Rat:=a.mapIdx fun i r=>bK r x-b.getD i 0
def cF (a:List (List Rat)) (b x:List Rat):Rat:=bK (fP a b x) (fP a b x)
noncomputable def cV (M:List (List QX)) (b x:List QX):Option Rat × Int:=
 if eA M=true∧dC b=true then if x.all (fun q=>(qv q).isSome)=true then if b.length=M.length∧x.length=(M.getD 0 []).length then gY (cF (aK M) (aW b) (aW x)) else (none,2) else (none,40) else (none,350)
noncomputable def iU (M:List (List QX)) (b:List QX):Option (List Rat) × Int:=
 if eA M=true∧dC b=true then if b.length=M.length then mM (aZ (bB (aK M)) (bG (aK M) (aW b))) else (none,2) else (none,350)
def eP (m:List (List Rat)) (l:Rat) (d:List Rat):List (List Rat):=m.mapIdx fun i r=>r.set i (r.getD i 0+l*d.getD i 0)
noncomputable def eG (M:List (List QX)) (b d:List QX) (l:QX):Option (List Rat) × Int:=
 if eA M=true∧dC b=true∧dC d=true∧eC l=true then if b.length=M.length∧d.length=(M.getD 0 []).length∧l.1.1=false∧d.all (fun q=>!q.1.1)=true then mM (aZ (eP (bB (aK M)) ((qv l).getD 0) (aW d)) (bG (aK M) (aW b))) else (none,2) else (none,350)
def eE (t:List (List Rat)) (p:List Nat) (n:Nat):List Rat:=(List.range n).map fun j=>if j∈p then bP t (p.idxOf j) n else 0
def qL (t:List (List Rat)) (p:List Nat) (n j:Nat):List Rat:=(List.range n).map fun i=>if i=j then 1 else if i∈p then -(bP t (p.idxOf i) j) else 0
def gX (t:List (List Rat)) (p:List Nat) (n:Nat):List (List Rat):=((List.range n).filter fun j=>!decide (j∈p)).map (qL t p n)
def gH (a ways:List (List Rat)):List (List Rat):=a.map fun r=>ways.map fun y=>bK r y
def mN (a:List (List Rat)) (b x:List Rat):List Rat:=a.mapIdx fun i r=>b.getD i 0-bK r x
def kQ (x:List Rat) (ways:List (List Rat)) (t:List Rat):List Rat:=x.mapIdx fun i y=>y+bK t (dD ways i)
noncomputable def iV (M:List (List QX)) (b:List QX) (C:List (List QX)) (f:List QX):Option (List Rat) × Int:=
 if eA M=true∧dC b=true∧eA C=true∧dC f=true then if b.length=M.length∧f.length=C.length∧(C.getD 0 []).length=(M.getD 0 []).length then
  let n:=aM (aK C);let e:=elimQ (bM (aK C) (aW f)) n
  if solvQ e n=true then
   if gX e.1 e.2 n=[] then fO (eE e.1 e.2 n)
   else match aZ (bB (gH (aK M) (gX e.1 e.2 n))) (bG (gH (aK M) (gX e.1 e.2 n)) (mN (aK M) (aW b) (eE e.1 e.2 n))) with
    | some t=>fO (kQ (eE e.1 e.2 n) (gX e.1 e.2 n) t)
    | none=>(none,7)
  else (none,4) else (none,2) else (none,350)
def Elem.Soft {α:Type} (E:Elem α):Prop:=∀ {w w':World} {cs:List Value} {a:α},E w w.heap.size cs a→Go.Proofs.YtencnahjgbdeoaaGreatDoor.Soft w w'→E w' w'.heap.size cs a
theorem EQ.soft:Elem.Soft EQ:=fun⟨c0,c1,c2,c3,e,h⟩ hs=>⟨c0,c1,c2,c3,e,h.soft hs⟩
abbrev aIz:=@EQ.soft
theorem ER.soft:Elem.Soft ER:=fun⟨c0,c1,c2,e,h⟩ hs=>⟨c0,c1,c2,e,TV.soft h hs⟩
abbrev aKb:=@ER.soft
def Elem.Free {α:Type} (E:Elem α):Prop:=∀ {w:World} {B:Nat} {cs:List Value} {a:α},E w B cs a→∀ v∈cs,bN v=true
theorem EQ.free:Elem.Free EQ:=by
 rintro w B cs a ⟨c0,c1,c2,c3,rfl,A,l,c,A',l',c',e,-,-⟩ v hv;injection e with e
 simp at e
 obtain⟨rfl,rfl,rfl,rfl⟩:=e;simp at hv
 rcases hv with rfl | rfl | rfl | rfl <;> rfl
theorem ER.free:Elem.Free ER:=by
 rintro w B cs a ⟨c0,c1,c2,rfl,n,A,l,c,A',l',c',e,-,-,-⟩ v hv;injection e with e
 simp at e
 obtain⟨rfl,rfl,rfl⟩:=e;simp at hv
 rcases hv with rfl | rfl | rfl <;> rfl
def aN (w:World) (g p:Nat):List Value→World
 | []=>w
 | c :: cs=>aN (w.setCell ⟨g,p,none⟩ c) g (p+1) cs
def OB {α:Type} (k:Nat) (E:Elem α) (T:TypeId) (w:World) (g n:Nat) (l:List α):Prop:=
 ∃ arr:Array Value,CB w g T arr∧(∀ (i:Nat) (v:Value),l.length*k≤i→i<n*k→arr[i]?=some v→bN v=true)∧(l.length≤n∧n*k≤arr.size)∧∀ j (h:j<l.length),∃ cs:List Value,cs.length=k∧(∀ (i:Nat) (v:Value),cs[i]?=some v→arr[j*k+i]?=some v)∧E w w.heap.size cs l[j]
section
variable {α:Type} {k:Nat} {E:Elem α} {T:TypeId} {w w':World} {g n:Nat} {l:List α}
theorem OB.lt (h:OB k E T w g n l):g<w.heap.size:=by obtain⟨arr,h,-⟩:=h;exact h.lt
theorem OB.step (h:OB k E T w g n l) (hE:E.Stable) (hb:Below w.heap.size w w'):OB k E T w' g n l:=by
 obtain⟨arr,h1,h2,h3,h4⟩:=h;refine⟨arr,h1.step hb,h2,h3,fun j hj=>?_⟩;obtain⟨cs,e1,e2,e3⟩:=h4 j hj;exact⟨cs,e1,e2,hE.more (hE.below e3 hb) hb.size⟩
abbrev aKi:=@OB.step
theorem OB.len (h:OB k E T w g n l):l.length≤n:=by obtain⟨arr,-,-,h3,-⟩:=h;exact h3.1
theorem OB.sl (h:OB k E T w g n l) {c:Nat} (hc:l.length≤c) (hm:c≤9223372036854775807):SL k E w w.heap.size (.slice (some ⟨g,0,none⟩) l.length c) l:=by
 have hlt:=h.lt;obtain⟨arr,h1,h2,h3,h4⟩:=h;refine⟨_,c,rfl,hc,hm,fun _=>⟨g,0,rfl,hlt,fun j hj=>?_⟩⟩;obtain⟨cs,e1,e2,e3⟩:=h4 j hj;exact⟨cs,e1,fun i v hv=>h1.cell _ (by rw[aIx];exact e2 i v hv),e3⟩
theorem OB.at (h:OB k E T w g n l) (j:Nat) (hj:j<l.length):∃ cs:List Value,cs.length=k∧cellsAt w g (j*k) cs∧E w w.heap.size cs l[j]:=by
 obtain⟨arr,h1,h2,h3,h4⟩:=h;obtain⟨cs,e1,e2,e3⟩:=h4 j hj;exact⟨cs,e1,fun i v hv=>h1.cell _ (e2 i v hv),e3⟩
theorem OB.frozen (h:OB k E T w g n l) (j:Nat):w.frozen? ⟨g,j,none⟩=false:=by obtain⟨arr,h1,-⟩:=h;exact h1.frozen j
abbrev aHn:=@OB.frozen
theorem CB.sets {t:TypeId}:∀ {cs:List Value} {w:World} {arr:Array Value} {p:Nat},CB w b t arr→p+cs.length≤arr.size→∃ arr',CB (aN w b p cs) b t arr'∧arr'.size=arr.size∧(∀ i v,cs[i]?=some v→arr'[p+i]?=some v)∧(∀ i,i<p∨p+cs.length≤i→arr'[i]?=arr[i]?)
 | [],w,arr,p,h,_=>⟨arr,h,rfl,fun i v hv=>by simp at hv,fun _ _=>rfl⟩
 | c :: cs,w,arr,p,h,hl=>by
  obtain⟨arr',h1,h2,h3,h4⟩:=CB.sets (cs:=cs) (p:=p+1) (h.set p c) (by simp at hl ⊢;omega);refine⟨arr',h1,by simpa using h2,fun i v hv=>?_,fun i hi=>?_⟩
  ·cases i with
   | zero=>
    have e:c=v:=by simpa using hv
    rw[aGd,h4 p (.inl (by omega)),← e];simp at hl
    simp[show p<arr.size by omega]
   | succ i=>have:=h3 i v (by simpa using hv);rwa [show p+1+i=p+(i+1) by omega] at this
  ·simp only[aEl] at hi hl
   rw[h4 i (by omega)];rw[Array.getElem?_setIfInBounds_ne (by omega)]
theorem Soft.at {w:World} {p:Addr} {u:Value} (hn:∀ kd x,w.cell? p≠some (.int kd x)):Go.Proofs.YtencnahjgbdeoaaGreatDoor.Soft w (w.setCell p u):=
 ⟨by simp[World.setCell],fun q kd x e=>by
  by_cases hq:p=q
  ·subst hq;exact absurd e (hn kd x)
  ·exact(World.cell?_setCell_other _ _ _ _ hq).trans e⟩
theorem sK {t:TypeId}:∀ {cs:List Value} {w:World} {arr:Array Value} {p:Nat},CB w b t arr→(∀ (i:Nat) (v:Value),i<cs.length→arr[p+i]?=some v→bN v=true)→Go.Proofs.YtencnahjgbdeoaaGreatDoor.Soft w (aN w b p cs)
 | [],w,_,_,_,_=>Soft.refl w
 | c :: cs,w,arr,p,h,hn=>by
  refine(Soft.at (u:=c) (p:=⟨b,p,none⟩) (fun kd x e=>?_)).trans (sK (h.set p c) (fun i v hi hv=>?_))
  ·unfold CB at h;simp only[World.cell?,h] at e
   have:=hn 0 (.int kd x) (by simp) (by simpa using e);cases this
  ·rw[Array.getElem?_setIfInBounds_ne (by omega)] at hv;exact hn (i+1) v (by simp;omega) (by rw[show p+(i+1)=p+1+i by omega];exact hv)
theorem ZC {arr:Array Value} (hF:E.Free) (h2:∀ (i:Nat) (v:Value),l.length*k≤i→i<n*k→arr[i]?=some v→bN v=true) (h4:∀ j (h:j<l.length),∃ cs:List Value,cs.length=k∧(∀ (i:Nat) (v:Value),cs[i]?=some v→arr[j*k+i]?=some v)∧E w w.heap.size cs l[j]) (i:Nat) (v:Value) (hi:i<n*k) (hv:arr[i]?=some v):bN v=true:=by
 by_cases hb:i<l.length*k
 ·have hk:0<k:=by
   rcases aGg k with h | h
   ·subst h;simp at hb
   ·exact h
  obtain⟨cs,e1,e2,e3⟩:=h4 (i / k) (by rw[Nat.div_lt_iff_lt_mul hk];exact hb);have hm:i % k<cs.length:=by rw[e1];exact aGp _ hk
  have h5:=e2 (i % k) cs[i % k] (aEh hm);rw[Nat.div_add_mod' i k,hv] at h5;injection h5 with h5
  rw[h5];exact hF e3 _ (aEc _)
 ·exact h2 i v (by omega) hi hv
theorem OB.softs (h:OB k E T w g n l) (hF:E.Free) {cs:List Value} {p:Nat} (hp:p+cs.length≤n*k):Go.Proofs.YtencnahjgbdeoaaGreatDoor.Soft w (aN w g p cs):=by
 obtain⟨arr,h1,h2,h3,h4⟩:=h;exact sK h1 (fun i v hi hv=>ZC (E:=E) hF h2 h4 _ v (by omega) hv)
theorem OB.set (h:OB k E T w g n l) (hE:E.Soft) (hF:E.Free) (j:Nat) (hj:j<l.length) {cs:List Value} {x:α} (hl:cs.length=k) (hx:E w w.heap.size cs x):OB k E T (aN w g (j*k) cs) g n (l.set j x):=by
 have hle0:j*k+cs.length≤n*k:=by
  have:(j+1)*k≤n*k:=aEs k (aEt hj h.len);rw[aGl,aIn] at this;omega
 have hs:=h.softs hF hle0;obtain⟨arr,h1,h2,h3,h4⟩:=h;have hle:j*k+cs.length≤arr.size:=aEg hle0 h3.2;obtain⟨arr',g1,g2,g3,g4⟩:=CB.sets (p:=j*k) (cs:=cs) h1 hle;have hjl:(j+1)*k≤l.length*k:=aEs k hj;rw[aGl,aIn] at hjl;refine⟨arr',g1,fun i v hi hi2 hv=>?_,⟨by rw[aEz];exact h3.1,by rw[g2];exact h3.2⟩,fun i hi=>?_⟩
 ·rw[aEz] at hi;rw[g4 i (by omega)] at hv;exact h2 i v hi hi2 hv
 ·rw[aEz] at hi;by_cases he:j=i
  ·subst he;refine⟨cs,hl,g3,?_⟩;rw[List.getElem_set_self];exact hE hx hs
  ·obtain⟨cs',e1,e2,e3⟩:=h4 i hi;refine⟨cs',e1,fun m v hv=>?_,?_⟩
   ·have hn:m<k:=by
     rcases aFk m cs'.length with hh | hh
     ·omega
     ·rw[aFm hh] at hv;cases hv
    rw[g4 _ ?_]
    ·exact e2 m v hv
    ·rcases Nat.lt_or_gt_of_ne he with h5 | h5
     ·right
      have:(j+1)*k≤i*k:=aEs k h5;rw[aGl,aIn] at this;omega
     ·left
      have:(i+1)*k≤j*k:=aEs k h5;rw[aGl,aIn] at this;omega
   ·rw[List.getElem_set_ne he];exact hE e3 hs
theorem OB.push (h:OB k E T w g n l) (hE:E.Soft) (hF:E.Free) (hj:l.length<n) {cs:List Value} {x:α} (hl:cs.length=k) (hx:E w w.heap.size cs x):OB k E T (aN w g (l.length*k) cs) g n (l++[x]):=by
 have hle0:l.length*k+cs.length≤n*k:=by
  have:(l.length+1)*k≤n*k:=aEs k hj;rw[aGl,aIn] at this;omega
 have hs:=h.softs hF hle0;obtain⟨arr,h1,h2,h3,h4⟩:=h;have hle:l.length*k+cs.length≤arr.size:=aEg hle0 h3.2;obtain⟨arr',g1,g2,g3,g4⟩:=CB.sets (p:=l.length*k) (cs:=cs) h1 hle;refine⟨arr',g1,fun i v hi hi2 hv=>?_,⟨by simp;omega,by rw[g2];exact h3.2⟩,fun i hi=>?_⟩
 ·simp only[aEp,aEl,aEm,aIx,aGl,aIn] at hi
  rw[g4 i (by omega)] at hv;exact h2 i v (by omega) hi2 hv
 rcases aFk i l.length with hlt | hge
 ·obtain⟨cs',e1,e2,e3⟩:=h4 i hlt;refine⟨cs',e1,fun m v hv=>?_,?_⟩
  ·have hn:m<k:=by
    rcases aFk m cs'.length with hh | hh
    ·omega
    ·rw[aFm hh] at hv;cases hv
   have:(i+1)*k≤l.length*k:=aEs k hlt;rw[aGl,aIn] at this;rw[g4 _ (.inl (by omega))];exact e2 m v hv
  ·rw[aGq hlt];exact hE e3 hs
 ·have hi':i=l.length:=by simp at hi;omega
  subst hi';refine⟨cs,hl,g3,?_⟩;rw[aHr (aEa _)]
  simpa using hE hx hs
theorem sY {g:Nat} (hne:g≠b):∀ {cs:List Value} {w:World} {p:Nat},(aN w b p cs).heap[g]?=w.heap[g]?
 | [],_,_=>rfl
 | c :: cs,w,p=>by
  show(aN (w.setCell ⟨b,p,none⟩ c) b (p+1) cs).heap[g]?=_
  rw[sY hne,aFr w ⟨b,p,none⟩ c g hne]
theorem bS (hB:B≤b):∀ {cs:List Value} {w':World} {p:Nat},Below B w w'→Below B w (aN w' b p cs)
 | [],_,_,h=>h
 | c :: cs,w',p,h=>bS (w':=w'.setCell ⟨b,p,none⟩ c) hB (h.trans ⟨rfl,rfl,rfl,by simp[World.setCell],fun i hi=>aFr w' ⟨b,p,none⟩ c i (by show i≠b;omega)⟩)
theorem OB.far (h:OB k E T w g n l) (hE:E.Soft) {b p:Nat} {cs:List Value} (hne:g≠b) (hs:Go.Proofs.YtencnahjgbdeoaaGreatDoor.Soft w (aN w b p cs)):OB k E T (aN w b p cs) g n l:=by
 obtain⟨arr,h1,h2,h3,h4⟩:=h;refine⟨arr,?_,h2,h3,fun j hj=>?_⟩
 ·unfold CB at h1 ⊢;rw[sY hne];exact h1
 ·obtain⟨cs',e1,e2,e3⟩:=h4 j hj;exact⟨cs',e1,e2,hE e3 hs⟩
end
def EV:Elem Value:=fun _ _ cs v=>cs=[v]∧bN v=true
theorem EV.stable:Elem.Stable EV:=⟨fun h _=>h,fun h _=>h⟩
abbrev aLi:=@EV.stable
theorem EV.soft:Elem.Soft EV:=fun h _=>h
abbrev aLj:=@EV.soft
theorem EV.free:Elem.Free EV:=by
 rintro w B cs a ⟨rfl,h⟩ v hv;simp at hv;subst hv;exact h
def tY {α:Type} (G C:Nat→Nat) (M:List (List α)):List Value:=M.mapIdx fun i l=>.slice (some ⟨G i,0,none⟩) l.length (C i)
structure OM {α:Type} (k:Nat) (E:Elem α) (T TH:TypeId) (w:World) (B tb R:Nat) (G C:Nat→Nat) (M:List (List α)):Prop where
 hdr:OB 1 EV TH w tb R (tY G C M)
 cap:∀ i (h:i<M.length),M[i].length≤C i∧C i≤9223372036854775807
 inj:∀ i j,i<M.length→j<M.length→G i=G j→i=j
 apart:∀ i,i<M.length→G i≠tb∧B≤G i
 low:B≤tb
 rows:∀ i (h:i<M.length),OB k E T w (G i) (C i) M[i]
section
variable {α:Type} {k:Nat} {E:Elem α} {T TH:TypeId} {w w':World} {B tb R:Nat} {G C:Nat→Nat} {M:List (List α)}
theorem aV:(tY G C M).length=M.length:=by simp[tY]
theorem mA (i:Nat) (h:i<M.length):(tY G C M)[i]'(by rw[aV];exact h)=.slice (some ⟨G i,0,none⟩) M[i].length (C i):=by simp[tY]
theorem OM.lt (h:OM k E T TH w B tb R G C M):tb<w.heap.size:=h.hdr.lt
theorem OM.step (h:OM k E T TH w B tb R G C M) (hE:E.Stable) (hb:Below w.heap.size w w'):OM k E T TH w' B tb R G C M:=
 ⟨h.hdr.step aLi hb,h.cap,h.inj,h.apart,h.low,fun i hi=>(h.rows i hi).step hE hb⟩
abbrev aJx:=@OM.step
theorem OM.cell (h:OM k E T TH w B tb R G C M) (i:Nat) (hi:i<M.length):w.cell? ⟨tb,i,none⟩=some (.slice (some ⟨G i,0,none⟩) M[i].length (C i)):=by
 obtain⟨cs,-,h2,h3,-⟩:=h.hdr.at i (by rw[aV];exact hi);rw[mA i hi] at h3;subst h3
 simpa using h2 0 _ rfl
theorem OM.frozen (h:OM k E T TH w B tb R G C M) (i:Nat):w.frozen? ⟨tb,i,none⟩=false:=h.hdr.frozen i
theorem OM.sl (h:OM k E T TH w B tb R G C M) {c:Nat} (hc:M.length≤c) (hm:c≤9223372036854775807):SL 1 (SE k E) w w.heap.size (.slice (some ⟨tb,0,none⟩) M.length c) M:=by
 refine⟨_,c,rfl,hc,hm,fun _=>⟨tb,0,rfl,h.lt,fun j hj=>⟨[.slice (some ⟨G j,0,none⟩) M[j].length (C j)],rfl,fun i v hv=>?_,_,rfl,(h.rows j hj).sl (h.cap j hj).1 (h.cap j hj).2⟩⟩⟩;cases i with
 | zero=>simp at hv;subst hv;simpa using h.cell j hj
 | succ i=>simp at hv
theorem OM.set (h:OM k E T TH w B tb R G C M) (hE:E.Soft) (hF:E.Free) (i j:Nat) (hi:i<M.length) (hj:j<M[i].length) {cs:List Value} {x:α} (hl:cs.length=k) (hx:E w w.heap.size cs x) :
  OM k E T TH (aN w (G i) (j*k) cs) B tb R G C (M.set i (M[i].set j x))∧Go.Proofs.YtencnahjgbdeoaaGreatDoor.Soft w (aN w (G i) (j*k) cs):=by
 have hle:j*k+cs.length≤C i*k:=by
  have:(j+1)*k≤C i*k:=aEs k (aEt hj (h.cap i hi).1);rw[aGl,aIn] at this;omega
 have hs:=(h.rows i hi).softs hF hle;have hh:tY G C (M.set i (M[i].set j x))=tY G C M:=by
  apply aGx (by simp[tY])
  intro n h1 h2;simp only[tY,aGy,aIf]
  split
  ·rename_i e;subst e;rw[aEz]
  ·rfl
 refine⟨⟨?_,?_,?_,?_,h.low,?_⟩,hs⟩
 ·rw[hh];exact h.hdr.far aLj (fun e=>(h.apart i hi).1 e.symm) hs
 ·intro n hn;rw[aEz] at hn;rw[aIf]
  split
  ·rename_i e;subst e;rw[aEz];exact h.cap i hi
  ·exact h.cap n hn
 ·intro a b ha hb;rw[aEz] at ha hb;exact h.inj a b ha hb
 ·intro a ha;rw[aEz] at ha;exact h.apart a ha
 ·intro n hn;rw[aEz] at hn;rw[aIf]
  split
  ·rename_i e;subst e;exact(h.rows i hi).set hE hF j hj hl hx
  ·rename_i e
   exact(h.rows n hn).far hE (fun e'=>e (h.inj i n hi hn e'.symm)) hs
theorem OM.swap (h:OM k E T TH w B tb R G C M) (hE:E.Soft) (a i:Nat) (ha:a<M.length) (hi:i<M.length) :
  OM k E T TH ((w.setCell ⟨tb,a,none⟩ (.slice (some ⟨G i,0,none⟩) M[i].length (C i))).setCell ⟨tb,i,none⟩ (.slice (some ⟨G a,0,none⟩) M[a].length (C a))) B tb R
   (fun n=>if n=i then G a else if n=a then G i else G n) (fun n=>if n=i then C a else if n=a then C i else C n) ((M.set a M[i]).set i M[a]) ∧
  Go.Proofs.YtencnahjgbdeoaaGreatDoor.Soft w ((w.setCell ⟨tb,a,none⟩ (.slice (some ⟨G i,0,none⟩) M[i].length (C i))).setCell ⟨tb,i,none⟩ (.slice (some ⟨G a,0,none⟩) M[a].length (C a))):=by
 have ha':a<(tY G C M).length:=by rw[aV];exact ha
 have hi':i<(tY G C M).length:=by rw[aV];exact hi
 have hR:M.length≤R:=by have:=h.hdr.len;rwa [aV] at this
 have s1:Go.Proofs.YtencnahjgbdeoaaGreatDoor.Soft w (aN w tb (a*1) [.slice (some ⟨G i,0,none⟩) M[i].length (C i)]):=h.hdr.softs EV.free (by simp;omega);have o1:=h.hdr.set aLj EV.free a ha' (cs:=[.slice (some ⟨G i,0,none⟩) M[i].length (C i)]) rfl ⟨rfl,rfl⟩;have s2:Go.Proofs.YtencnahjgbdeoaaGreatDoor.Soft (aN w tb (a*1) [.slice (some ⟨G i,0,none⟩) M[i].length (C i)]) (aN (aN w tb (a*1) [.slice (some ⟨G i,0,none⟩) M[i].length (C i)]) tb (i*1) [.slice (some ⟨G a,0,none⟩) M[a].length (C a)]):=o1.softs EV.free (by simp;omega);have o2:=o1.set aLj EV.free i (by rw[aEz];exact hi') (cs:=[.slice (some ⟨G a,0,none⟩) M[a].length (C a)]) rfl ⟨rfl,rfl⟩;have hw:aN (aN w tb (a*1) [.slice (some ⟨G i,0,none⟩) M[i].length (C i)]) tb (i*1) [.slice (some ⟨G a,0,none⟩) M[a].length (C a)]=(w.setCell ⟨tb,a,none⟩ (.slice (some ⟨G i,0,none⟩) M[i].length (C i))).setCell ⟨tb,i,none⟩ (.slice (some ⟨G a,0,none⟩) M[a].length (C a)):=by
  rw[aJi,aJi];rfl
 have far:∀ m (hm:m<M.length),OB k E T (aN (aN w tb (a*1) [.slice (some ⟨G i,0,none⟩) M[i].length (C i)]) tb (i*1) [.slice (some ⟨G a,0,none⟩) M[a].length (C a)]) (G m) (C m) M[m]:=fun m hm=>
  ((h.rows m hm).far hE (h.apart m hm).1 s1).far hE (h.apart m hm).1 s2
 rw[hw] at o2 far s2;have hget:∀ n (hn:n<M.length),((M.set a M[i]).set i M[a])[n]'(by simpa using hn)=if n=i then M[a] else if n=a then M[i] else M[n]:=fun n hn=>by
  rw[aIf,aIf];by_cases e1:i=n
  ·simp[e1]
  ·by_cases e2:a=n
   ·simp[e1,e2,aMj e1]
   ·simp[e1,e2,aMj e1,aMj e2]
 have hh:tY (fun n=>if n=i then G a else if n=a then G i else G n) (fun n=>if n=i then C a else if n=a then C i else C n) ((M.set a M[i]).set i M[a])=((tY G C M).set a (.slice (some ⟨G i,0,none⟩) M[i].length (C i))).set i (.slice (some ⟨G a,0,none⟩) M[a].length (C a)):=by
  apply aGx (by simp[tY])
  intro n h1 h2;have hn:n<M.length:=by simpa[tY] using h1
  rw[mA n (by simpa using hn),hget n hn,aIf,aIf,mA n hn];by_cases e1:n=i
  ·subst e1;simp
  ·by_cases e2:n=a
   ·subst e2;simp[e1,aMj e1]
   ·simp[e1,e2,aMj e1,aMj e2]
 refine⟨⟨by rw[hh];exact o2,fun n hn=>?_,fun p q hp hq he=>?_,fun n hn=>?_,h.low,fun n hn=>?_⟩,s1.trans s2⟩
 ·rw[aEz,aEz] at hn;rw[hget n hn];by_cases e1:n=i
  ·subst e1;simp[h.cap a ha]
  ·by_cases e2:n=a
   ·subst e2;simp[e1,h.cap i hi]
   ·simp[e1,e2,h.cap n hn]
 ·rw[aEz,aEz] at hp hq;have key:∀ n,n<M.length→∃ m,m<M.length∧(if n=i then G a else if n=a then G i else G n)=G m∧(m=if n=i then a else if n=a then i else n):=fun n hn=>by
   by_cases e1:n=i
   ·exact⟨a,ha,by simp[e1],by simp[e1]⟩
   ·by_cases e2:n=a
    ·exact⟨i,hi,by rw[aEu e1,aEv e2],by rw[aEu e1,aEv e2]⟩
    ·exact⟨n,hn,by rw[aEu e1,aEu e2],by rw[aEu e1,aEu e2]⟩
  obtain⟨m1,l1,g1,x1⟩:=key p hp;obtain⟨m2,l2,g2,x2⟩:=key q hq;have:=h.inj m1 m2 l1 l2 (by rw[← g1,← g2];exact he);rw[x1,x2] at this;by_cases p1:p=i <;> by_cases p2:p=a <;> by_cases q1:q=i <;> by_cases q2:q=a <;> simp_all
 ·rw[aEz,aEz] at hn;by_cases e1:n=i
  ·simp[e1,h.apart a ha]
  ·by_cases e2:n=a
   ·simp only[aEu e1,aEv e2];exact h.apart i hi
   ·simp only[aEu e1,aEu e2];exact h.apart n hn
 ·rw[aEz,aEz] at hn;rw[hget n hn];by_cases e1:n=i
  ·simp only[e1,if_true];exact far a ha
  ·by_cases e2:n=a
   ·simp only[e2,if_true]
    have e3:a≠i:=fun e=>e1 (e2.trans e)
    simp only[e3,if_false];exact far i hi
   ·simp only[e1,if_false,e2];exact far n hn
def iW (n g:Nat) (G:Nat→Nat):Nat→Nat:=fun i=>if i=n then g else G i
theorem EJ {l:List α} {c:Nat}:tY (iW M.length g G) (iW M.length c C) (M++[l])=tY G C M++[.slice (some ⟨g,0,none⟩) l.length c]:=by
 apply aGx (by simp[tY])
 intro n h1 h2;have hn:n<M.length+1:=by simpa[tY] using h1
 rw[mA n (by simpa using hn)];by_cases e:n<M.length
 ·rw[aGq e,aGq (by rw[aV];exact e),mA n e];simp[iW,show n≠M.length by omega]
 ·have e':n=M.length:=by omega
  subst e';rw[aHr (aEa _),aHr (by rw[aV];exact aEa _)];simp[iW,aV]
theorem OM.more (h:OM k E T TH w B tb R G C M) {w':World} {tb' R' g c:Nat} {l:List α} (hh:OB 1 EV TH w' tb' R' (tY G C M++[.slice (some ⟨g,0,none⟩) l.length c])) (hlow:B≤tb')
  (hr:∀ i (hi:i<M.length),OB k E T w' (G i) (C i) M[i]) (hap:∀ i,i<M.length→G i≠tb') (hg:g≠tb'∧B≤g) (hi:∀ i,i<M.length→G i≠g) (hc:l.length≤c∧c≤9223372036854775807) (hl:OB k E T w' g c l) :
  OM k E T TH w' B tb' R' (iW M.length g G) (iW M.length c C) (M++[l]):=by
 have hget:∀ n (hn:n<M.length),(M++[l])[n]'(by simp;omega)=M[n]:=fun n hn=>aGq hn
 refine⟨by rw[EJ];exact hh,fun n hn=>?_,fun p q hp hq he=>?_,fun n hn=>?_,hlow,fun n hn=>?_⟩
 ·simp only[aEp,aEl,aEm] at hn
  by_cases e:n<M.length
  ·simp only[hget n e,iW,aEu (show n≠M.length by omega)];exact h.cap n e
  ·have e':n=M.length:=by omega
   subst e';simp[iW,hc]
 ·simp only[aEp,aEl,aEm] at hp hq
  unfold iW at he;by_cases e1:p=M.length <;> by_cases e2:q=M.length
  ·omega
  ·rw[aEv e1,aEu e2] at he;exact absurd he.symm (hi q (by omega))
  ·rw[aEu e1,aEv e2] at he;exact absurd he (hi p (by omega))
  ·rw[aEu e1,aEu e2] at he;exact h.inj p q (by omega) (by omega) he
 ·simp only[aEp,aEl,aEm] at hn
  unfold iW;by_cases e:n=M.length
  ·rw[aEv e];exact hg
  ·rw[aEu e];exact⟨hap n (by omega),(h.apart n (by omega)).2⟩
 ·simp only[aEp,aEl,aEm] at hn
  by_cases e:n<M.length
  ·simp only[hget n e,iW,aEu (show n≠M.length by omega)];exact hr n e
  ·have e':n=M.length:=by omega
   subst e';simp[iW,hl]
theorem OM.push (h:OM k E T TH w B tb R G C M) (hE:E.Soft) (hR:M.length<R) {g c:Nat} {l:List α} (hg:g≠tb∧B≤g) (hi:∀ i,i<M.length→G i≠g) (hc:l.length≤c∧c≤9223372036854775807) (hl:OB k E T w g c l) :
  OM k E T TH (aN w tb M.length [.slice (some ⟨g,0,none⟩) l.length c]) B tb R (iW M.length g G) (iW M.length c C) (M++[l])∧Go.Proofs.YtencnahjgbdeoaaGreatDoor.Soft w (aN w tb M.length [.slice (some ⟨g,0,none⟩) l.length c]):=by
 have s1:Go.Proofs.YtencnahjgbdeoaaGreatDoor.Soft w (aN w tb M.length [.slice (some ⟨g,0,none⟩) l.length c]):=h.hdr.softs EV.free (by simp;omega);have o1:=h.hdr.push aLj EV.free (by rw[aV];exact hR) (cs:=[.slice (some ⟨g,0,none⟩) l.length c]) rfl ⟨rfl,rfl⟩;rw[aV,aJi] at o1;exact⟨h.more o1 h.low (fun i hi=>(h.rows i hi).far hE (h.apart i hi).1 s1) (fun i hi=>(h.apart i hi).1) hg hi hc (hl.far hE hg.1 s1),s1⟩
theorem OM.start (k:Nat) (E:Elem α) (T:TypeId) (h:OB 1 EV TH w tb R []) (hl:B≤tb):OM k E T TH w B tb R G C ([]:List (List α)):=
 ⟨h,fun i hi=>absurd hi (by simp),fun i j hi=>absurd hi (by simp),fun i hi=>absurd hi (by simp),hl,fun i hi=>absurd hi (by simp)⟩
end
structure E3 (w:World) (g p:Nat) (x0 x1 x2:Value):Prop where
 c0:w.cell? ⟨g,p,none⟩=some x0
 c1:w.cell? ⟨g,p+1,none⟩=some x1
 c2:w.cell? ⟨g,p+2,none⟩=some x2
structure E4 (w:World) (g p:Nat) (x0 x1 x2 x3:Value):Prop where
 c0:w.cell? ⟨g,p,none⟩=some x0
 c1:w.cell? ⟨g,p+1,none⟩=some x1
 c2:w.cell? ⟨g,p+2,none⟩=some x2
 c3:w.cell? ⟨g,p+3,none⟩=some x3
section
variable {w w':World} {g p:Nat} {x0 x1 x2 x3:Value}
theorem E3.lt (h:E3 w g p x0 x1 x2):g<w.heap.size:=iX h.c0
theorem E4.lt (h:E4 w g p x0 x1 x2 x3):g<w.heap.size:=iX h.c0
theorem ez3 (h:E3 w g p x0 x1 x2):w.cell? ⟨g,p,none⟩=some x0∧w.cell? ⟨g,p+1,none⟩=some x1∧w.cell? ⟨g,p+2,none⟩=some x2∧g<w.heap.size:=⟨h.c0,h.c1,h.c2,h.lt⟩
theorem ez4 (h:E4 w g p x0 x1 x2 x3):w.cell? ⟨g,p,none⟩=some x0∧w.cell? ⟨g,p+1,none⟩=some x1∧w.cell? ⟨g,p+2,none⟩=some x2∧w.cell? ⟨g,p+3,none⟩=some x3∧g<w.heap.size:=⟨h.c0,h.c1,h.c2,h.c3,h.lt⟩
theorem E3.step (h:E3 w g p x0 x1 x2) (hb:Below w.heap.size w w'):E3 w' g p x0 x1 x2:=
 ⟨(hb.cell (p:=⟨g,p,none⟩) h.lt).trans h.c0,(hb.cell (p:=⟨g,p+1,none⟩) h.lt).trans h.c1,(hb.cell (p:=⟨g,p+2,none⟩) h.lt).trans h.c2⟩
abbrev aIb:=@E3.step
theorem E4.step (h:E4 w g p x0 x1 x2 x3) (hb:Below w.heap.size w w'):E4 w' g p x0 x1 x2 x3:=
 ⟨(hb.cell (p:=⟨g,p,none⟩) h.lt).trans h.c0,(hb.cell (p:=⟨g,p+1,none⟩) h.lt).trans h.c1,(hb.cell (p:=⟨g,p+2,none⟩) h.lt).trans h.c2,(hb.cell (p:=⟨g,p+3,none⟩) h.lt).trans h.c3⟩
abbrev aIg:=@E4.step
theorem E3.of (h:cellsAt w g p [x0,x1,x2]):E3 w g p x0 x1 x2:=⟨h 0 _ rfl,h 1 _ rfl,h 2 _ rfl⟩
theorem E4.of (h:cellsAt w g p [x0,x1,x2,x3]):E4 w g p x0 x1 x2 x3:=⟨h 0 _ rfl,h 1 _ rfl,h 2 _ rfl,h 3 _ rfl⟩
end
section
variable {w:World} {B:Nat} {A:Option Addr} {n c j:Nat}
theorem SL.len {α:Type} {E:Elem α} {l:List α} (h:SL k E w B (.slice A n c) l):n=l.length∧n≤c∧c≤9223372036854775807:=by
 obtain⟨A',c',e,h1,h2,-⟩:=h;injection e with e1 e2 e3
 subst e2;subst e3;exact⟨rfl,h1,h2⟩
abbrev aHb:=@SL.len
theorem RS.elem {l:List Rat} (h:RS w B (.slice A n c) l) (hj:j<l.length):∃ g off xn xA xl xc xB xu xd,A=some ⟨g,off,none⟩∧g<B∧E3 w g (off+j*3) (.bool xn) (.slice xA xl xc) (.slice xB xu xd)∧RV w B (.agg #[.bool xn,.slice xA xl xc,.slice xB xu xd]) l[j]:=by
 obtain⟨A',c',e,h1,h2,h3⟩:=h;injection e with e1 e2 e3
 subst e1;obtain⟨g,off,hA,hg,hx⟩:=h3 (by omega);obtain⟨cs,-,k2,x0,x1,x2,rfl,xn,xA,xl,xc,xB,xu,xd,e,k3⟩:=hx j hj;injection e with e
 simp at e
 obtain⟨rfl,rfl,rfl⟩:=e;exact⟨g,off,xn,xA,xl,xc,xB,xu,xd,hA,hg,E3.of k2,⟨xn,xA,xl,xc,xB,xu,xd,rfl,k3⟩⟩
theorem QS.elem {l:List QX} (h:QS w B (.slice A n c) l) (hj:j<l.length):∃ g off xA xl xc xB xu xd,A=some ⟨g,off,none⟩∧g<B∧E4 w g (off+j*4) (.bool l[j].1.1) (.slice xA xl xc) (.bool l[j].2.1) (.slice xB xu xd)∧QR w B (.agg #[.bool l[j].1.1,.slice xA xl xc,.bool l[j].2.1,.slice xB xu xd]) l[j].1.1 l[j].1.2 l[j].2.1 l[j].2.2:=by
 obtain⟨A',c',e,h1,h2,h3⟩:=h;injection e with e1 e2 e3
 subst e1;obtain⟨g,off,hA,hg,hx⟩:=h3 (by omega);obtain⟨cs,-,k2,x0,x1,x2,x3,rfl,xA,xl,xc,xB,xu,xd,e,k3⟩:=hx j hj;injection e with e
 simp at e
 obtain⟨rfl,rfl,rfl,rfl⟩:=e;exact⟨g,off,xA,xl,xc,xB,xu,xd,hA,hg,E4.of k2,⟨xA,xl,xc,xB,xu,xd,rfl,k3⟩⟩
abbrev aKm:=@QS.elem
theorem SL.row {α:Type} {E:Elem α} {M:List (List α)} (h:SL 1 (SE k E) w B (.slice A n c) M) (hj:j<M.length):∃ g off A' c',A=some ⟨g,off,none⟩∧g<B∧w.cell? ⟨g,off+j,none⟩=some (.slice A' M[j].length c')∧SL k E w B (.slice A' M[j].length c') M[j]:=by
 obtain⟨A0,c0,e,h1,h2,h3⟩:=h;injection e with e1 e2 e3
 subst e1;obtain⟨g,off,hA,hg,hx⟩:=h3 (by omega);obtain⟨cs,-,k2,v,rfl,k3⟩:=hx j hj;obtain⟨A',c',rfl,-,-⟩:=k3.slice;have k4:=k2 0 _ rfl;rw[aJi,aGd] at k4;exact⟨g,off,A',c',hA,hg,k4,k3⟩
abbrev aKy:=@SL.row
end
def mapTo {α:Type} (f:Nat→α→α) (k:Nat) (l:List α):List α:=l.mapIdx fun i x=>if i<k then f i x else x
section
variable {α:Type} {f:Nat→α→α} {k:Nat} {l:List α}
theorem eK:(mapTo f k l).length=l.length:=by simp[mapTo]
theorem gE (hi:i<l.length):(mapTo f k l)[i]'(by rw[eK];exact hi)=if i<k then f i l[i] else l[i]:=by simp[mapTo]
theorem jT:mapTo f 0 l=l:=by
 apply aGx eK
 intro i h1 h2;rw[gE h2];simp
theorem jU (h:l.length≤k):mapTo f k l=l.mapIdx f:=by
 apply aGx (by simp[mapTo])
 intro i h1 h2;have hi:i<l.length:=by simpa[mapTo] using h1
 rw[gE hi,aEv (by omega)];simp
theorem oK (hk:k<l.length):(mapTo f k l).set k (f k l[k])=mapTo f (k+1) l:=by
 apply aGx (by simp[mapTo])
 intro i h1 h2;have hi:i<l.length:=by simpa[mapTo] using h2
 rw[aIf,gE (k:=k+1) hi];by_cases e:k=i
 ·subst e;rw[aEv rfl,aEv (by omega)]
 ·rw[aEu e,gE hi];by_cases e2:i<k
  ·rw[aEv e2,aEv (by omega)]
  ·rw[aEu e2,aEu (by omega)]
end
theorem aG {α:Type} {l:List α} {d:α} (h:i<l.length):l.getD i d=l[i]:=by
 rw[aEi,aEh h,aIw]
theorem aBo (hi:i<t.length) (hj:j<t[i].length):bP t i j=t[i][j]:=by
 unfold bP;rw[aG hi,aG hj]
theorem MJ (ha:a<t.length) :
  clearQ t a j=(t.set a (iD t a j)).mapIdx fun i r=>if i=a then r else pF r (r.getD j 0) (iD t a j):=by
 apply aGx (by simp[clearQ])
 intro i h1 h2;simp only[clearQ,aGy,aIf]
 by_cases e:i=a
 ·subst e;simp
 ·rw[aEu e,aEu e];have e':¬ a=i:=fun h=>e h.symm
  simp[e']
theorem XA {p:Rat}:AH r p=r.mapIdx fun _ x=>x / p:=by
 apply aGx (by simp[AH])
 intro i h1 h2;simp[AH]
theorem PZ {p:List Rat}:pF r 0 p=r:=by
 apply aGx (by simp[pF])
 intro i h1 h2;simp[pF,aJm,aHe,aIv]
theorem mL (t:List (List Rat)):∀ j,(elimQ t j).2.Pairwise (· < ·)∧∀ x∈(elimQ t j).2,x<j
 | 0=>⟨List.Pairwise.nil,fun x h=>by cases h⟩
 | j+1=>by
  obtain⟨h1,h2⟩:=mL t j;unfold elimQ dX
  split
  ·refine⟨List.pairwise_append.2 ⟨h1,List.pairwise_singleton _ _,fun x hx y hy=>?_⟩,fun x hx=>?_⟩
   ·have e:y=j:=by simpa using hy
    rw[e];exact h2 x hx
   ·rcases aGb.1 hx with h | h
    ·have:=h2 x h;omega
    ·have e:x=j:=by simpa using h
     omega
  ·exact⟨h1,fun x hx=>by have:=h2 x hx;omega⟩
theorem yO (h:p.Pairwise (· < ·)):∀ i (hi:i<p.length),i≤p[i]
 | 0,_=>aEy _
 | i+1,hi=>by
  have h1:=yO h i (by omega);have h2:=List.pairwise_iff_getElem.1 h i (i+1) (by omega) hi (by omega)
  omega
theorem yN (h:p.Pairwise (· < ·)) (hn:∀ x∈p,x<n):∀ d i (hi:i+d+1=p.length),p[i]'(by omega)+d<n
 | 0,i,hi=>hn _ (aEc _)
 | d+1,i,hi=>by
  have h1:=yN h hn d (i+1) (by omega);have h2:=List.pairwise_iff_getElem.1 h i (i+1) (by omega) (by omega) (by omega)
  omega
theorem VS (h:p.Pairwise (· < ·)) (hn:∀ x∈p,x<n) (hl:p.length=n):p=List.range n:=by
 apply aGx (by simpa using hl)
 intro i h1 h2;have e1:=yO h i h1;have e2:=yN h hn (n-1-i) i (by omega);simp
 omega
def aDo (p:List Nat) (n:Nat):List Int:=(List.range n).map fun j=>if j∈p then (p.idxOf j:Int) else -1
theorem LK (h:n≤t.length):jL t n=(t.take n).map fun r=>r.getD n 0:=by
 apply aGx (by simp[jL];omega)
 intro i h1 h2;have hi:i<n:=by simpa[jL] using h1
 have h3:i<t.length:=by omega
 simp[jL,bP,h3]
def OA {α:Type} (k:Nat) (E:Elem α) (T:TypeId) (w:World) (B:Nat) (v:Value) (l:List α):Prop:=
 (v=.slice none 0 0∧l=[])∨∃ g cap,v=.slice (some ⟨g,0,none⟩) l.length cap∧B≤g∧cap≤9223372036854775807∧OB k E T w g cap l
section
variable {α:Type} {k:Nat} {E:Elem α} {T TH:TypeId} {w w':World} {B:Nat} {v v':Value} {l:List α} {G C:Nat→Nat} {M:List (List α)}
theorem OA.nil:OA k E T w B (.slice none 0 0) ([]:List α):=.inl ⟨rfl,rfl⟩
theorem OA.step (h:OA k E T w B v l) (hE:E.Stable) (hb:Below w.heap.size w w'):OA k E T w' B v l:=by
 rcases h with h | ⟨g,cap,h1,h2,h3,h4⟩
 ·exact .inl h
 ·exact .inr ⟨g,cap,h1,h2,h3,h4.step hE hb⟩
abbrev aNk:=@OA.step
theorem OA.weak {B':Nat} (h:OA k E T w B v l) (hB:B'≤B):OA k E T w B' v l:=by
 rcases h with h | ⟨g,cap,h1,h2,h3,h4⟩
 ·exact .inl h
 ·exact .inr ⟨g,cap,h1,aEg hB h2,h3,h4⟩
theorem OA.blk (h:OA k E T w B v l) (e:v.ownBlock=some b):b<w.heap.size∧B≤b:=by
 rcases h with ⟨rfl,-⟩ | ⟨g,cap,rfl,h2,-,h4⟩
 ·cases e
 ·simp[Value.ownBlock] at e;subst e;exact⟨h4.lt,h2⟩
theorem OA.sl (h:OA k E T w B v l):SL k E w w.heap.size v l:=by
 rcases h with ⟨rfl,rfl⟩ | ⟨g,cap,rfl,-,h3,h4⟩
 ·exact SL.nil _ _ _ _
 ·exact h4.sl h4.len h3
theorem OB.grown {row:Option Nat} (h:OB k E T w g n l) (hE:E.Soft) (hg:w.grownBy w' row) (hr:row≠some g) (hs:Go.Proofs.YtencnahjgbdeoaaGreatDoor.Soft w w'):OB k E T w' g n l:=by
 have hlt:=h.lt;obtain⟨arr,h1,h2,h3,h4⟩:=h;refine⟨arr,(hg.block g hlt (fun e=>hr e.symm)).trans h1,h2,h3,fun j hj=>?_⟩;obtain⟨cs,e1,e2,e3⟩:=h4 j hj;exact⟨cs,e1,e2,hE e3 hs⟩
theorem PM (hk:0<z.size) (hz:∀ v∈z.toList,bN v=true) {n i:Nat} {v:Value} (h:(Builtin.zeroCells z n)[i]?=some v):bN v=true:=by
 unfold Builtin.zeroCells at h;rw[Array.getElem?_map] at h;cases e:(Array.range (n*z.size))[i]? with
 | none=>rw[e] at h;cases h
 | some x=>
  rw[e] at h;injection h with h
  change z[x % z.size]! = v at h
  have hi:x % z.size<z.size:=aGp _ hk;rw[getElem!_pos z _ hi] at h;rw[← h];exact hz _ (by rw[← Array.getElem_toList];exact aEc _)
theorem ZB (hz:∀ v∈z.toList,bN v=true) (hzs:z.size=k) (hk:0<k) {olds:List Value} {n m:Nat} {l:List α} {e:TypeId}
  (ho:olds.length=l.length*k) (hm:l.length≤m) (hn:n=m-l.length) (h4:∀ j (h:j<l.length),∃ cs:List Value,cs.length=k∧(∀ (i:Nat) (v:Value),cs[i]?=some v→olds[j*k+i]?=some v)∧E w w.heap.size cs l[j])
  (hE:E.Stable):OB k E e (w.drew.alloc (.cells (olds.toArray++Builtin.zeroCells z n) e)) w.heap.size m l:=by
 refine⟨_,aHl w.drew e _,fun i v h1 h2 hv=>?_,⟨hm,?_⟩,fun j hj=>?_⟩
 ·rw[Array.getElem?_append_right (by simp;omega)] at hv;exact PM (by omega) hz hv
 ·simp only[Array.size_append,List.size_toArray,Builtin.zeroCells,Array.size_map,Array.size_range,ho,hzs,hn,← aGl]
  exact aEs k (by omega)
 ·obtain⟨cs,e1,e2,e3⟩:=h4 j hj;refine⟨cs,e1,fun i v hv=>?_,?_⟩
  ·have:=e2 i v hv;rw[Array.getElem?_append_left (by simp;exact(aGu.1 this).1)]
   simpa using this
  ·have hb:Below w.heap.size w (w.drew.alloc (.cells (olds.toArray++Builtin.zeroCells z n) e)):=aB (aA (aDy _ _)) _;exact hE.more (hE.below e3 hb) hb.size
def EL (k:Nat) (E:Elem α) (w:World) (cs:List Value) (ys:List α):Prop:=cs.length=ys.length*k∧∀ j (h:j<ys.length),∃ ds:List Value,ds.length=k∧(∀ (i:Nat) (v:Value),ds[i]?=some v→cs[j*k+i]?=some v)∧E w w.heap.size ds ys[j]
theorem EL.one {cs:List Value} {y:α} (h:cs.length=k) (hy:E w w.heap.size cs y):EL k E w cs [y]:=by
 refine⟨by simp[h],fun j hj=>?_⟩;have:j=0:=by simp at hj;omega
 subst this;exact⟨cs,h,fun i v hv=>by simpa using hv,hy⟩
abbrev aLt:=@EL.one
theorem SL.cells {off c:Nat} (h:SL k E w w.heap.size (.slice (some ⟨g,off,none⟩) n c) l) (hl:0<l.length) (hk:∀ w B cs a,E w B cs a→∀ u∈cs,u.oneCell'=true):∃ cs:List Value,EL k E w cs l∧(∀ j u,cs[j]?=some u→w.cell? ((⟨g,off,none⟩:Addr).add j)=some u)∧∀ u∈cs,u.oneCell'=true:=by
 obtain⟨A,c',e,-,-,h0⟩:=h;injection e with e
 obtain⟨g',off',e',-,hx⟩:=h0 hl;rw[e'] at e;injection e with e
 injection e with e1 e2
 subst e1;subst e2;have key:∀ p,p≤l.length→∃ cs:List Value,cs.length=p*k∧(∀ j u,cs[j]?=some u→w.cell? ⟨g,off+j,none⟩=some u)∧(∀ j (h:j<l.length),j<p→∃ ds:List Value,ds.length=k∧(∀ (i:Nat) (v:Value),ds[i]?=some v→cs[j*k+i]?=some v)∧E w w.heap.size ds l[j])∧∀ u∈cs,u.oneCell'=true:=by
  intro p
  induction p with
  | zero=>intro _;exact⟨[],by simp,fun j u hu=>by simp at hu,fun j _ hj=>absurd hj (by omega),fun u hu=>by simp at hu⟩
  | succ p ih=>
   intro hp;obtain⟨cs,c1,c2,c3,c4⟩:=ih (by omega);obtain⟨ds,d1,d2,d3⟩:=hx p (by omega);refine⟨cs++ds,by rw[aEp,c1,d1,aGl,aIn],fun j u hu=>?_,fun j hj hjp=>?_,fun u hu=>?_⟩
   ·by_cases e:j<cs.length
    ·rw[aGv e] at hu;exact c2 j u hu
    ·rw[aIc (by omega)] at hu;have:=d2 _ _ hu
     rwa [show off+p*k+(j-cs.length)=off+j by omega] at this
   ·by_cases e:j<p
    ·obtain⟨es,e1,e2,e3⟩:=c3 j hj e;refine⟨es,e1,fun i v hv=>?_,e3⟩;have:=e2 i v hv;rw[aGv (aGu.1 this).1];exact this
    ·have:j=p:=by omega
     subst this;refine⟨ds,d1,fun i v hv=>?_,d3⟩;rw[aIc (by omega),show j*k+i-cs.length=i by omega];exact hv
   ·rcases aGb.1 hu with h | h
    ·exact c4 u h
    ·exact hk _ _ _ _ d3 u h
 obtain⟨cs,c1,c2,c3,c4⟩:=key l.length (aEa _);exact⟨cs,⟨c1,fun j hj=>c3 j hj hj⟩,fun j u hu=>by rw[rJ];exact c2 j u hu,c4⟩
theorem xS (w:World) (base:Nat) (t ty e:TypeId) (i:TypeInfo) (z:Value) (bytes:Nat) (ht:P.underlying t=some (.slice e)) (hi:P.info? e=some i) (hz:i.zero=some z)
  (hsize:i.size=k) (hby:i.bytes=bytes) (hzs:z.cells.size=k) (hk:0<k) (hzf:∀ v∈z.cells.toList,bN v=true) (hS:E.Stable) (hE:E.Soft)
  {v:Value} {l:List α} (h:OA k E e w base v l) (a:Addr) (c:Nat) (cs:List Value) (ys:List α) (hys:0<ys.length) (hcs:EL k E w cs ys) (hnews:∀ j u,cs[j]?=some u→w.cell? (a.add j)=some u) (h1:∀ u∈cs,u.oneCell'=true)
  (h63:l.length+ys.length≤maxLen) (hbytes:(l.length+ys.length)*bytes≤140737488355328) (hbase:base≤w.heap.size) :
  ∃ v' w',(Builtin.append_ #[t,t] ty #[v,.slice (some a) ys.length c]).run P w=.ok v' w'∧OA k E e w' base v' (l++ys)∧Below base w w'∧Go.Proofs.YtencnahjgbdeoaaGreatDoor.Soft w w'∧w.grownBy w' v.ownBlock∧(v'.ownBlock=v.ownBlock∨v'.ownBlock=some w.heap.size):=by
 obtain⟨hcl,hce⟩:=hcs;have hsmall:l.length+ys.length≤9223372036854775807:=by simp only[maxLen] at h63;omega
 have hl1:cs.length=ys.length*i.size:=by rw[hsize];exact hcl
 have lenx:(l++ys).length=l.length+ys.length:=by simp
 have hge:=fun old=>grownCap_ge w (l.length+ys.length) old e
 have hcm:=fun old=>grownCap_le_maxLen w (l.length+ys.length) old e h63
 have both:∀ {olds:List Value},olds.length=l.length*k→(∀ j (h:j<l.length),∃ ds:List Value,ds.length=k∧(∀ (i:Nat) (v:Value),ds[i]?=some v→olds[j*k+i]?=some v)∧E w w.heap.size ds l[j]) →
   ∀ j (h:j<(l++ys).length),∃ ds:List Value,ds.length=k∧(∀ (i:Nat) (v:Value),ds[i]?=some v→(olds++cs)[j*k+i]?=some v)∧E w w.heap.size ds (l++ys)[j]:=by
  intro olds ho h4 j hj;by_cases ej:j<l.length
  ·obtain⟨ds,e1,e2,e3⟩:=h4 j ej;refine⟨ds,e1,fun i v hv=>?_,by rw[aGq ej];exact e3⟩;have:=e2 i v hv;rw[aGv (aGu.1 this).1];exact this
  ·obtain⟨m,rfl⟩:∃ m,j=l.length+m:=⟨j-l.length,by omega⟩;have hm:m<ys.length:=by omega
   obtain⟨ds,e1,e2,e3⟩:=hce m hm;refine⟨ds,e1,fun i v hv=>?_,by rw[aHr (by omega)];simpa using e3⟩;rw[aGl,aIc (by omega),show l.length*k+m*k+i-olds.length=m*k+i by omega];exact e2 i v hv
 have grew:∀ (olds:List Value) (old:Nat),olds.length=l.length*k→(∀ j (h:j<l.length),∃ ds:List Value,ds.length=k∧(∀ (i:Nat) (v:Value),ds[i]?=some v→olds[j*k+i]?=some v)∧E w w.heap.size ds l[j])→∀ row:Option Nat,
   OA k E e (w.drew.alloc (.cells ((olds++cs).toArray++Builtin.zeroCells z.cells (grownCap w (l.length+ys.length) old e-(l.length+ys.length))) e)) base (.slice (some ⟨w.heap.size,0,none⟩) (l.length+ys.length) (grownCap w (l.length+ys.length) old e)) (l++ys) ∧
   Below base w (w.drew.alloc (.cells ((olds++cs).toArray++Builtin.zeroCells z.cells (grownCap w (l.length+ys.length) old e-(l.length+ys.length))) e)) ∧
   Go.Proofs.YtencnahjgbdeoaaGreatDoor.Soft w (w.drew.alloc (.cells ((olds++cs).toArray++Builtin.zeroCells z.cells (grownCap w (l.length+ys.length) old e-(l.length+ys.length))) e)) ∧
   w.grownBy (w.drew.alloc (.cells ((olds++cs).toArray++Builtin.zeroCells z.cells (grownCap w (l.length+ys.length) old e-(l.length+ys.length))) e)) row:=by
  intro olds old ho h4 row;refine⟨.inr ⟨_,_,by rw[lenx],hbase,by have:=hcm old;simp only[maxLen] at this;omega,?_⟩,(aA (aDy base w)).alloc hbase _,aJw (aB (aA (aDy _ _)) _),⟨rfl,rfl,rfl,by simp,fun m hm _=>heap_alloc_old w.drew _ hm⟩⟩;exact ZB hzf hzs hk (l:=l++ys) (by rw[aEp,ho,hcl,lenx,aGl]) (by rw[lenx];exact hge old) (by rw[lenx]) (both ho h4) hS
 rcases h with ⟨rfl,rfl⟩ | ⟨g,cap,rfl,hg,hcap,hob⟩
 ·have hr:=run_append_nil (P:=P) w t ty e i z ht hi hz a ys.length c cs hl1 hnews hys (by simp at hsmall;omega) (by rw[hby];simp at hbytes;omega);have hgr:=grew [] 0 (by simp) (fun j hj=>absurd hj (by simp)) (Value.ownBlock (.slice none 0 0));simp only[aEm,aIx,aNn] at hgr hr ⊢
  refine⟨_,_,hr,?_⟩;exact⟨hgr.1,hgr.2.1,hgr.2.2.1,hgr.2.2.2,Or.inr rfl⟩
 ·obtain⟨arr,o1,o2,o3,o4⟩:=hob;have hlk:l.length*k≤arr.size:=aEg (aEs k o3.1) o3.2;have hol:(arr.toList.take (l.length*k)).length=l.length*k:=by simp;omega
  have hold:∀ j (h:j<l.length),∃ ds:List Value,ds.length=k∧(∀ (i:Nat) (v:Value),ds[i]?=some v→(arr.toList.take (l.length*k))[j*k+i]?=some v)∧E w w.heap.size ds l[j]:=fun j hj=>by
   obtain⟨ds,e1,e2,e3⟩:=o4 j hj;refine⟨ds,e1,fun m u hu=>?_,e3⟩;have hm:m<k:=by have:=(aGu.1 hu).1;omega
   have:(j+1)*k≤l.length*k:=aEs k hj;rw[aGl,aIn] at this;rw[aLc,aEv (by omega)]
   simpa using e2 m u hu
  by_cases hroom:l.length+ys.length≤cap
  ·have hck:(l.length+ys.length)*k≤cap*k:=aEs k hroom;have hck':=hck;rw[aGl] at hck';have hfit:l.length*i.size+cs.length≤arr.size:=by rw[hsize,hcl];have:=o3.2;omega
   have hr:=run_append_room (P:=P) w t ty e i ht hi g l.length cap arr o1 a ys.length c cs hl1 hnews h1 hroom hfit;rw[hsize] at hr hfit;generalize hnew:(arr.toList.take (l.length*k)++cs++arr.toList.drop (l.length*k+cs.length))=new at hr;have hrow:∀ (n:Nat),new[n]?=if n<(l.length+ys.length)*k then (arr.toList.take (l.length*k)++cs)[n]? else arr[n]?:=fun n=>by
    rw[aGl,← hnew];by_cases e1:n<l.length*k+ys.length*k
    ·rw[aEv e1,aGv (by rw[aEp,hol,hcl];exact e1)]
    ·rw[aEu e1,aIc (by rw[aEp,hol,hcl];omega),List.getElem?_drop,aEp,hol,show l.length*k+cs.length+(n-(l.length*k+cs.length))=n by omega];simp
   have hrow1:∀ n,n<l.length*k→new[n]?=arr[n]?:=fun n h=>by
    rw[hrow,aEv (by rw[aGl];omega),aGv (by rw[hol];exact h),aLc,aEv h];simp
   have soft:Go.Proofs.YtencnahjgbdeoaaGreatDoor.Soft w (w.setRow g new.toArray):=by
    refine⟨by simp[World.setRow],fun q kd y hq=>?_⟩;by_cases hqb:q.block=g
    ·have hnew:=setRow_heap w g arr new.toArray e (0,0) o1;subst hqb;unfold CB at o1;simp only[World.cell?,o1] at hq
     simp only[World.cell?,hnew,List.getElem?_toArray]
     by_cases hsp:q.spot.isSome=true
     ·rw[aEv hsp] at hq;cases hq
     ·rw[aEu hsp] at hq ⊢;by_cases e1:q.off<l.length*k
      ·rw[hrow1 _ e1];exact hq
      ·by_cases e2:q.off<(l.length+ys.length)*k
       ·have:=o2 q.off _ (by omega) (by omega) hq;cases this
       ·rw[hrow,aEu e2];exact hq
    ·exact(aIt (setRow_other w g q.block _ hqb)).trans hq
   refine⟨_,_,hr,.inr ⟨g,cap,by rw[lenx],hg,hcap,new.toArray,setRow_heap w g arr _ e (0,0) o1,fun n u h1 h2 hu=>?_,⟨by rw[lenx];exact hroom,?_⟩,fun j hj=>?_⟩,
    ⟨rfl,rfl,rfl,by simp[World.setRow],fun n hn=>setRow_other w g n _ (by omega)⟩,soft,⟨rfl,rfl,rfl,by simp[World.setRow],fun n _ hn=>setRow_other w g n _ (fun e=>hn (by simp[Value.ownBlock,e]))⟩,Or.inl rfl⟩
   ·rw[lenx] at h1;rw[List.getElem?_toArray,hrow,aEu (by omega)] at hu;exact o2 n u (aEg (aEs k (Nat.le_add_right _ _)) h1) h2 hu
   ·have hs2:new.length=arr.size:=by rw[← hnew];simp only[aEp,aEk,aJq,Array.length_toList];omega
    rw[List.size_toArray,hs2];exact o3.2
   ·obtain⟨ds,e1,e2,e3⟩:=both hol hold j hj;refine⟨ds,e1,fun m u hu=>?_,hE e3 soft⟩;have hm:m<k:=by have:=(aGu.1 hu).1;omega
    have h5:(j+1)*k≤(l.length+ys.length)*k:=aEs k (by rw[lenx] at hj;exact hj);have h6:(j+1)*k=j*k+k:=by rw[aGl,aIn]
    rw[List.getElem?_toArray,hrow,aEv (by omega)];exact e2 m u hu
  ·have holds:∀ j u,(arr.toList.take (l.length*k))[j]?=some u→w.cell? ((⟨g,0,none⟩:Addr).add j)=some u:=fun j u hu=>by
    rw[rJ,aIx];rw[aLc] at hu
    split at hu
    ·exact CB.cell o1 j (by simpa using hu)
    ·cases hu
   have hr:=run_append_grow (P:=P) w t ty e i z ht hi hz ⟨g,0,none⟩ l.length cap (arr.toList.take (l.length*k)) (by rw[hol,hsize]) holds a ys.length c cs hl1 hnews (by omega) (by omega) (growslice_fits (by omega) (by rw[hby];exact hbytes));have hgr:=grew (arr.toList.take (l.length*k)) cap hol hold (Value.ownBlock (.slice (some ⟨g,0,none⟩) l.length cap));rw[show(arr.toList.take (l.length*k)).toArray++cs.toArray=(arr.toList.take (l.length*k)++cs).toArray from by simp] at hr;refine⟨_,_,hr,?_⟩;exact⟨hgr.1,hgr.2.1,hgr.2.2.1,hgr.2.2.2,Or.inr rfl⟩
theorem gV {o:Oper} {a:Act} {w:World} {K:Act→World→Prop} {Q:Exit→Act→World→Prop} (s x:Operand) (t:TypeId)
  (ho:o.op=.call { callee:=.builtin .append,args:=#[s,x],argTypes:=#[t,t] }) (base:Nat) (e:TypeId) (i:TypeInfo) (z:Value) (bytes:Nat) (ht:P.underlying t=some (.slice e)) (hi:P.info? e=some i) (hz:i.zero=some z)
  (hsize:i.size=k) (hby:i.bytes=bytes) (hzs:z.cells.size=k) (hk:0<k) (hzf:∀ v∈z.cells.toList,bN v=true) (hS:E.Stable) (hE:E.Soft)
  {v:Value} {l:List α} (h:OA k E e w base v l) (hs:a.eval s=v) (ad:Addr) (c:Nat) (ys:List α) (hx':a.eval x=.slice (some ad) ys.length c) (hys:0<ys.length) (cs:List Value) (hcs:EL k E w cs ys) (hnews:∀ j u,cs[j]?=some u→w.cell? (ad.add j)=some u) (h1:∀ u∈cs,u.oneCell'=true)
  (h63:l.length+ys.length≤maxLen) (hbytes:(l.length+ys.length)*bytes≤140737488355328) (hbase:base≤w.heap.size)
  (hgo:∀ v' w',OA k E e w' base v' (l++ys)→Below base w w'→Go.Proofs.YtencnahjgbdeoaaGreatDoor.Soft w w'→w.grownBy w' v.ownBlock→(v'.ownBlock=v.ownBlock∨v'.ownBlock=some w.heap.size)→K (a.put o.dst v') w') :
  o.wp P a w K Q:=by
 obtain⟨v',w',hr,h2,h3,h4,h5,h6⟩:=xS (P:=P) w base t o.type e i z bytes ht hi hz hsize hby hzs hk hzf hS hE h ad c cs ys hys hcs hnews h1 h63 hbytes hbase;unfold Oper.wp execOp;simp only[ho,resolve,invoke,builtin,Sem.run_bind,Sem.run_pure,Result.andThen_ok,List.map_toArray,aMk,List.map_nil,hs,hx',hr]
 exact hgo v' w' h2 h3 h4 h5 h6
theorem aO {ops:Array Oper} {rest:List Oper} {o:Oper} {a:Act} {w:World} {Q:Exit→Act→World→Prop} (hgd:o.guard=none) (s x:Operand) (t:TypeId)
  (ho:o.op=.call { callee:=.builtin .append,args:=#[s,x],argTypes:=#[t,t] }) (base:Nat) (e:TypeId) (i:TypeInfo) (z:Value) (bytes:Nat) (ht:P.underlying t=some (.slice e)) (hi:P.info? e=some i) (hz:i.zero=some z)
  (hsize:i.size=k) (hby:i.bytes=bytes) (hzs:z.cells.size=k) (hk:0<k) (hzf:∀ v∈z.cells.toList,bN v=true) (hS:E.Stable) (hE:E.Soft)
  {v:Value} {l:List α} (h:OA k E e w base v l) (hs:a.eval s=v) (ad:Addr) (c:Nat) (ys:List α) (hx':a.eval x=.slice (some ad) ys.length c) (hys:0<ys.length) (cs:List Value) (hcs:EL k E w cs ys) (hnews:∀ j u,cs[j]?=some u→w.cell? (ad.add j)=some u) (h1:∀ u∈cs,u.oneCell'=true)
  (h63:l.length+ys.length≤maxLen) (hbytes:(l.length+ys.length)*bytes≤140737488355328) (hbase:base≤w.heap.size)
  (hgo:∀ v' w',OA k E e w' base v' (l++ys)→Below base w w'→Go.Proofs.YtencnahjgbdeoaaGreatDoor.Soft w w'→w.grownBy w' v.ownBlock→(v'.ownBlock=v.ownBlock∨v'.ownBlock=some w.heap.size)→wpList P ops Q rest (a.put o.dst v') w') :
  wpList P ops Q (o :: rest) a w:=
 wpList_plain hgd fun _ hK=>gV s x t ho base e i z bytes ht hi hz hsize hby hzs hk hzf hS hE h hs ad c ys hx' hys cs hcs hnews h1 h63 hbytes hbase fun v' w' h2 h3 h4 h5 h6=>hK _ _ (hgo v' w' h2 h3 h4 h5 h6)
structure OMV {α:Type} (k:Nat) (E:Elem α) (T TH:TypeId) (w:World) (B:Nat) (v:Value) (G C:Nat→Nat) (M:List (List α)):Prop where
 hdr:OA 1 EV TH w B v (tY G C M)
 cap:∀ i (h:i<M.length),M[i].length≤C i∧C i≤9223372036854775807
 inj:∀ i j,i<M.length→j<M.length→G i=G j→i=j
 apart:∀ i,i<M.length→v.ownBlock≠some (G i)∧B≤G i
 rows:∀ i (h:i<M.length),OB k E T w (G i) (C i) M[i]
theorem OMV.nil:OMV k E T TH w B (.slice none 0 0) G C ([]:List (List α)):=
 ⟨.inl ⟨rfl,rfl⟩,fun i hi=>absurd hi (by simp),fun i j hi=>absurd hi (by simp),fun i hi=>absurd hi (by simp),fun i hi=>absurd hi (by simp)⟩
theorem OMV.step (h:OMV k E T TH w B v G C M) (hE:E.Stable) (hb:Below w.heap.size w w'):OMV k E T TH w' B v G C M:=
 ⟨h.hdr.step aLi hb,h.cap,h.inj,h.apart,fun i hi=>(h.rows i hi).step hE hb⟩
abbrev aNg:=@OMV.step
theorem OMV.put {p:Nat} {u:Value} (h:OMV k E T TH w B v G C M) (hE:E.Soft) (hb:b<B) (hs:Go.Proofs.YtencnahjgbdeoaaGreatDoor.Soft w (w.setCell ⟨b,p,none⟩ u)):OMV k E T TH (w.setCell ⟨b,p,none⟩ u) B v G C M:=
 ⟨by
  rcases h.hdr with h | ⟨g,cap,h1,h2,h3,h4⟩
  ·exact .inl h
  ·exact .inr ⟨g,cap,h1,h2,h3,h4.far aLj (b:=b) (p:=p) (cs:=[u]) (by omega) hs⟩,h.cap,h.inj,h.apart,fun i hi=>(h.rows i hi).far hE (b:=b) (p:=p) (cs:=[u]) (by have:=(h.apart i hi).2;omega) hs⟩
theorem OMV.sl (h:OMV k E T TH w B v G C M):SL 1 (SE k E) w w.heap.size v M:=by
 by_cases hM:0<M.length
 ·rcases h.hdr with ⟨-,e⟩ | ⟨g,cap,rfl,h2,h3,h4⟩
  ·have:=aIl List.length e;rw[aV] at this;simp at this;subst this;exact absurd hM (by simp)
  ·have hm:OM k E T TH w B g cap G C M:=⟨h4,h.cap,h.inj,fun i hi=>⟨fun e=>(h.apart i hi).1 (by simp[Value.ownBlock,e]),(h.apart i hi).2⟩,h2,h.rows⟩;have hl:=h4.len;rw[aV] at hl ⊢;exact hm.sl hl h3
 ·obtain rfl:M=[]:=aGh (by omega);rcases h.hdr with ⟨rfl,-⟩ | ⟨g,cap,rfl,h2,h3,h4⟩
  ·exact SL.nil _ _ _ _
  ·exact⟨_,cap,rfl,aEy _,h3,fun h=>absurd h (by simp)⟩
theorem OMV.om (h:OMV k E T TH w B v G C M) (hM:0<M.length):∃ tb R,v=.slice (some ⟨tb,0,none⟩) M.length R∧R≤9223372036854775807∧OM k E T TH w B tb R G C M:=by
 rcases h.hdr with ⟨-,e⟩ | ⟨g,cap,rfl,h2,h3,h4⟩
 ·have:=aIl List.length e;rw[aV] at this;simp at this;subst this;exact absurd hM (by simp)
 ·exact⟨g,cap,by rw[aV],h3,h4,h.cap,h.inj,fun i hi=>⟨fun e=>(h.apart i hi).1 (by simp[Value.ownBlock,e]),(h.apart i hi).2⟩,h2,h.rows⟩
theorem OM.weak {B' tb R:Nat} (h:OM k E T TH w B tb R G C M) (hB:B'≤B):OM k E T TH w B' tb R G C M:=
 ⟨h.hdr,h.cap,h.inj,fun i hi=>⟨(h.apart i hi).1,aEg hB (h.apart i hi).2⟩,aEg hB h.low,h.rows⟩
theorem OMV.app (h:OMV k E T TH w B v G C M) (hE:E.Soft) {g c:Nat} {l:List α} (hg:B≤g∧v.ownBlock≠some g) (hi:∀ i,i<M.length→G i≠g) (hc:l.length≤c∧c≤9223372036854775807) (hl:OB k E T w g c l)
  (hh:OA 1 EV TH w' B v' (tY G C M++[.slice (some ⟨g,0,none⟩) l.length c])) (hs:Go.Proofs.YtencnahjgbdeoaaGreatDoor.Soft w w') (hgr:w.grownBy w' v.ownBlock) (hat:v'.ownBlock=v.ownBlock∨v'.ownBlock=some w.heap.size) :
  OMV k E T TH w' B v' (iW M.length g G) (iW M.length c C) (M++[l]):=by
 have far:∀ b,v.ownBlock≠some b→b<w.heap.size→v'.ownBlock≠some b:=fun b h1 h2 e=>by
  rcases hat with h | h
  ·exact h1 (h▸e)
  ·rw[e] at h;injection h with h;omega
 have hget:∀ n (hn:n<M.length),(M++[l])[n]'(by simp;omega)=M[n]:=fun n hn=>aGq hn
 refine⟨by rw[EJ];exact hh,fun n hn=>?_,fun p q hp hq he=>?_,fun n hn=>?_,fun n hn=>?_⟩
 ·simp only[aEp,aEl,aEm] at hn
  by_cases e:n<M.length
  ·simp only[hget n e,iW,aEu (show n≠M.length by omega)];exact h.cap n e
  ·have e':n=M.length:=by omega
   subst e';simp[iW,hc]
 ·simp only[aEp,aEl,aEm] at hp hq
  unfold iW at he;by_cases e1:p=M.length <;> by_cases e2:q=M.length
  ·omega
  ·rw[aEv e1,aEu e2] at he;exact absurd he.symm (hi q (by omega))
  ·rw[aEu e1,aEv e2] at he;exact absurd he (hi p (by omega))
  ·rw[aEu e1,aEu e2] at he;exact h.inj p q (by omega) (by omega) he
 ·simp only[aEp,aEl,aEm] at hn
  unfold iW;by_cases e:n=M.length
  ·rw[aEv e];exact⟨far g hg.2 hl.lt,hg.1⟩
  ·rw[aEu e];exact⟨far _ (h.apart n (by omega)).1 (h.rows n (by omega)).lt,(h.apart n (by omega)).2⟩
 ·simp only[aEp,aEl,aEm] at hn
  by_cases e:n<M.length
  ·simp only[hget n e,iW,aEu (show n≠M.length by omega)];exact(h.rows n e).grown hE hgr (h.apart n e).1 hs
  ·have e':n=M.length:=by omega
   subst e';simp[iW,hl.grown hE hgr hg.2 hs]
end
theorem SD (h0:0<z.size) (hz:∀ v∈z.toList,bN v=true) (n:Nat):∀ v∈(madeCells z n).toList,bN v=true:=by
 intro v hv;unfold madeCells at hv;simp only[Array.toList_map,aFc] at hv
 obtain⟨i,-,rfl⟩:=hv;have hi:i % z.size<z.size:=aGp _ h0;rw[getElem!_pos z _ hi];exact hz _ (by rw[← Array.getElem_toList];exact aEc _)
theorem OB.made {α:Type} {E:Elem α} {T:TypeId} (w:World) (h0:0<z.size) (hz:∀ v∈z.toList,bN v=true) (n:Nat) :
  OB k E T (w.alloc (.cells (madeCells z (n*k)) T)) w.heap.size n []:=
 ⟨_,aHl _ _ _,fun i v _ _ hv=>SD h0 hz _ v (by simpa using aMu hv),⟨aEy _,aGo (size_madeCells _ _).symm⟩,fun j hj=>absurd hj (by simp)⟩
theorem iL:(Tryz.prog.info? 88).map (fun i=>(i.zero,i.size,i.bytes))=some (some (.agg #[.bool false,.slice none 0 0,.slice none 0 0]),3,56):=by kernel_rfl
theorem sU (n:Nat) (hn:n≤1000000) (w:World):(Instr.makeSlice 64 (.int .i64 (n:Int)) (.int .i64 (n:Int))).run Tryz.prog w =
  .ok (.slice (some ⟨w.heap.size,0,none⟩) n n) (w.alloc (.cells (madeCells #[.bool false,.slice none 0 0,.slice none 0 0] (n*3)) 88)):=by
 obtain⟨i,hi,hz,hs,hb⟩:=aGf iL;have h:=run_make (P:=Tryz.prog) w 64 88 i _ Tryz.underlying64 hi hz .i64 .i64 n n (by omega) (by omega) (by rw[hb];omega) (by omega);rw[h,hs];simp[Value.cells]
theorem OB.room {α:Type} {E:Elem α} {T:TypeId} {l:List α} (h:OB k E T w g n l) {p:Nat} (hp:p<n*k):∃ v,w.cell? ⟨g,p,none⟩=some v:=by
 obtain⟨arr,h1,-,h3,-⟩:=h;have:p<arr.size:=by have:=h3.2;omega
 exact⟨arr[p],h1.cell p (Array.getElem?_eq_getElem this)⟩
abbrev aIy:=@OB.room
end Go.Proofs.YtencnahjgbdeoaaGreatDoor
