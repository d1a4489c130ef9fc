/- Texts put together. -/
import Derived.Test.YtencnahjgbdeoaaGreatDoorOps
import Derived.OrdersHeld
import Derived.StillTail
import Derived.KernelRfl
import Derived.WalkKit
import Derived.Test.YtencnahjgbdeoaaGreatDoorDec
import Derived.Lib.Hide
namespace Go.Proofs.YtencnahjgbdeoaaGreatDoor
open Go Go.RowKit Dig
variable {B b c f i id j:Nat} {G p:Prop} {a:Act} {c0 c1 c2 v:Value} {cs:Array Value} {t:TypeId} {w w' w0:World} {xs:Nat→Value}
theorem mE {n N:Int} {d D:Nat} (hc:c≠0) (hd:d≠0) (hN:N=c*n) (hD:D=c*d) (h:Nat.Coprime n.natAbs d):(mkRat N D).num=n∧(mkRat N D).den=d:=by
 have h1:mkRat N D=⟨n,d,hd,h⟩:=by
  rw[hN,hD,Rat.mkRat_mul_left hc,← Rat.mk_eq_mkRat n d hd h]
 rw[h1];exact⟨rfl,rfl⟩
theorem cP {a:Int} {g:Nat} (h:(g:Int)∣a):(a / (g:Int)).natAbs=a.natAbs / g:=by
 obtain⟨k,rfl⟩:=h;by_cases hg:g=0
 ·subst hg;simp
 ·rw[Int.mul_ediv_cancel_left _ (by omega),aGi,aEr,Nat.mul_div_cancel_left _ (aFy hg)]
theorem dA (a:Int) (b:Nat):((Nat.gcd a.natAbs b:Nat):Int)∣a:=Int.ofNat_dvd_left.2 (aLx _ _)
theorem kI {n:Int} {d:Nat} (hd:d≠0):(mkRat n d).num=n / (Nat.gcd n.natAbs d:Nat)∧(mkRat n d).den=d / Nat.gcd n.natAbs d:=by
 have hg:Nat.gcd n.natAbs d≠0:=fun h=>hd (aLz.1 h).2
 refine mE hg ?_ ?_ ?_ ?_
 ·have:=Nat.div_pos (Nat.gcd_le_right n.natAbs (aFy hd)) (aFy hg);omega
 ·exact(aNd (dA n d)).symm
 ·exact(aKn (aLl _ _)).symm
 ·rw[cP (dA n d)];exact aJy (aFy hg)
theorem uD (q:Rat):Nat.Coprime q.num.natAbs q.den:=q.reduced
theorem wW {a c:Int} {x y:Nat} (h1:Nat.Coprime a.natAbs x) (h2:Nat.Coprime y x):Nat.Coprime (a*y+c*x).natAbs x:=by
 have h3:Int.gcd (a*y+c*x) x=Int.gcd (a*y) x:=Int.gcd_add_mul_right_left _ _ _;have h4:Nat.gcd (a*y+c*x).natAbs x=Nat.gcd (a*y).natAbs x:=h3
 show Nat.gcd _ _=1
 rw[h4,aGi,aEr];exact Nat.Coprime.mul_left h1 h2
theorem YU (q r:Rat) {g x y h:Nat} {n:Int} (hg:g=Nat.gcd q.den r.den) (hx:x=q.den / g) (hy:y=r.den / g) (hn:n=q.num*y+r.num*x) (hh:h=Nat.gcd n.natAbs g) :
  (q+r).num=n / (h:Nat)∧(q+r).den=x*(r.den / h):=by
 have hg0:0<g:=by rw[hg];exact Nat.gcd_pos_of_pos_left _ (aFy q.den_nz)
 have hb:q.den=g*x:=by rw[hx];exact(aKn (hg▸aLx _ _)).symm
 have hd:r.den=g*y:=by rw[hy];exact(aKn (hg▸aLl _ _)).symm
 have hxy:Nat.Coprime x y:=by rw[hx,hy,hg];exact aJy (hg▸hg0)
 have hax:Nat.Coprime q.num.natAbs x:=(uD q).coprime_dvd_right (hb▸Nat.dvd_mul_left x g);have hcy:Nat.Coprime r.num.natAbs y:=(uD r).coprime_dvd_right (hd▸Nat.dvd_mul_left y g);have hnx:Nat.Coprime n.natAbs x:=by rw[hn];exact wW hax hxy.symm
 have hny:Nat.Coprime n.natAbs y:=by rw[hn,Int.add_comm];exact wW hcy hxy
 have hh0:0<h:=by rw[hh];exact Nat.gcd_pos_of_pos_right _ hg0
 have hhg:h∣g:=hh▸aLl _ _;have hhd:h∣r.den:=Nat.dvd_trans hhg (hd▸Nat.dvd_mul_right g y);have hhn:(h:Int)∣n:=by rw[hh];exact dA _ _
 have hgcd:Nat.gcd n.natAbs (x*r.den)=h:=by
  rw[hnx.symm.gcd_mul_left_cancel_right,hd,aGt g y,hny.symm.gcd_mul_left_cancel_right,hh]
 have hx0:0<x:=by
  rcases aGg x with h0 | h0
  ·rw[h0,Nat.mul_zero] at hb;exact absurd hb q.den_nz
  ·exact h0
 rw[Rat.add_def'];refine mE (c:=g*h) ?_ ?_ ?_ ?_ ?_
 ·exact Nat.ne_of_gt (aKe hg0 hh0)
 ·exact Nat.ne_of_gt (aKe hx0 (Nat.div_pos (Nat.le_of_dvd (aFy r.den_nz) hhd) hh0))
 ·rw[aFp,aJl,aNd hhn,hn,hb,hd,aFp,aFp,aJk];rw[← aJl,← aJl,← aJl,← aJl,Int.mul_comm q.num g,Int.mul_comm r.num g]
 ·have e:g*h*(x*(r.den / h))=g*x*(h*(r.den / h)):=by
   rw[aGe,aGe,aJv h x]
  rw[e,aKn hhd,← hb]
 ·rw[cP hhn,← Nat.mul_div_assoc _ hhd,← hgcd];exact aJy (hgcd▸hh0)
theorem VO (q r:Rat) {g1 g2:Nat} (h1:g1=Nat.gcd q.num.natAbs r.den) (h2:g2=Nat.gcd r.num.natAbs q.den) :
  (q*r).num=q.num / (g1:Nat)*(r.num / (g2:Nat))∧(q*r).den=r.den / g1*(q.den / g2):=by
 have p1:0<g1:=by rw[h1];exact Nat.gcd_pos_of_pos_right _ (aFy r.den_nz)
 have p2:0<g2:=by rw[h2];exact Nat.gcd_pos_of_pos_right _ (aFy q.den_nz)
 have d1:(g1:Int)∣q.num:=by rw[h1];exact dA _ _
 have d2:(g2:Int)∣r.num:=by rw[h2];exact dA _ _
 have e1:g1∣r.den:=h1▸aLl _ _;have e2:g2∣q.den:=h2▸aLl _ _;have f1:0<r.den / g1:=Nat.div_pos (Nat.le_of_dvd (aFy r.den_nz) e1) p1;have f2:0<q.den / g2:=Nat.div_pos (Nat.le_of_dvd (aFy q.den_nz) e2) p2;rw[Rat.mul_def'];refine mE (c:=g1*g2) (Nat.ne_of_gt (aKe p1 p2)) (Nat.ne_of_gt (aKe f1 f2)) ?_ ?_ ?_
 ·have e:((g1*g2:Nat):Int)*(q.num / (g1:Nat)*(r.num / (g2:Nat)))=(g1*(q.num / (g1:Nat)))*(g2*(r.num / (g2:Nat))):=by
   rw[aFp,aJl,aJl,Int.mul_left_comm (g2:Int)]
  rw[e,aNd d1,aNd d2]
 ·have e:g1*g2*(r.den / g1*(q.den / g2))=(g1*(r.den / g1))*(g2*(q.den / g2)):=by
   rw[aGe,aGe,aJv g2]
  rw[e,aKn e1,aKn e2,aGt]
 ·rw[aGi,cP d1,cP d2];have c1:Nat.Coprime (q.num.natAbs / g1) (r.den / g1):=by rw[h1];exact aJy (h1▸p1)
  have c2:Nat.Coprime (r.num.natAbs / g2) (q.den / g2):=by rw[h2];exact aJy (h2▸p2)
  have k1:g1∣q.num.natAbs:=h1▸aLx _ _;have k2:g2∣r.num.natAbs:=h2▸aLx _ _;have c3:Nat.Coprime (q.num.natAbs / g1) (q.den / g2):=((uD q).coprime_div_left k1).coprime_div_right e2;have c4:Nat.Coprime (r.num.natAbs / g2) (r.den / g1):=((uD r).coprime_div_left k2).coprime_div_right e1;exact Nat.Coprime.mul_left (Nat.Coprime.mul_right c1 c3) (Nat.Coprime.mul_right c4 c2)
def WV (w:World) (B:Nat) (v:Value) (z:Int):Prop:=∃ n A l c,v=.agg #[.bool n,.slice A l c]∧RN w B (.slice A l c) (dig z.natAbs)∧(z≠0→n=decide (z<0))
def TV (w:World) (B:Nat) (v:Value) (z:Int) (d:Nat):Prop:=∃ n A l c A' l' c',v=.agg #[.bool n,.slice A l c,.slice A' l' c']∧RN w B (.slice A l c) (dig z.natAbs)∧RN w B (.slice A' l' c') (dig d)∧(z≠0→n=decide (z<0))
def QV (w:World) (B:Nat) (v:Value) (q:Rat):Prop:=∃ n A l c A' l' c',v=.agg #[.bool n,.slice A l c,.bool false,.slice A' l' c']∧RN w B (.slice A l c) (dig q.num.natAbs)∧RN w B (.slice A' l' c') (dig q.den)∧n=decide (q.num<0)
def QR (w:World) (B:Nat) (v:Value) (n:Bool) (a:List Int) (m:Bool) (b:List Int):Prop:=∃ A l c A' l' c',v=.agg #[.bool n,.slice A l c,.bool m,.slice A' l' c']∧RI w B (.slice A l c) a∧RI w B (.slice A' l' c') b
theorem RI.slice {l:List Int} (h:RI w B v l):∃ A c,v=.slice A l.length c:=by obtain⟨A,c,h,-⟩:=h;exact⟨A,c,h⟩
theorem RI.len {A:Option Addr} {n:Nat} {l:List Int} (h:RI w B (.slice A n c) l):n=l.length:=by
 obtain⟨A',c',h,-⟩:=h;injection h
theorem RN.len {A:Option Addr} {n:Nat} {l:List Nat} (h:RN w B (.slice A n c) l):n=l.length:=by
 have:=RI.len (show RI w B (.slice A n c) (ni l) from h);rw[this,aC]
section
variable {w w':World} {v:Value} {z:Int} {d:Nat} {q:Rat} {n m:Bool} {a b:List Int}
theorem WV.step (h:WV w w.heap.size v z) (hb:Below w.heap.size w w'):WV w' w'.heap.size v z:=by obtain⟨n,A,l,c,e,h1,h2⟩:=h;exact⟨n,A,l,c,e,h1.step hb,h2⟩
theorem TV.step (h:TV w w.heap.size v z d) (hb:Below w.heap.size w w'):TV w' w'.heap.size v z d:=by obtain⟨n,A,l,c,A',l',c',e,h1,h2,h3⟩:=h;exact⟨n,A,l,c,A',l',c',e,h1.step hb,h2.step hb,h3⟩
theorem QV.step (h:QV w w.heap.size v q) (hb:Below w.heap.size w w'):QV w' w'.heap.size v q:=by obtain⟨n,A,l,c,A',l',c',e,h1,h2,h3⟩:=h;exact⟨n,A,l,c,A',l',c',e,h1.step hb,h2.step hb,h3⟩
abbrev aHf:=@QV.step
theorem QR.step (h:QR w w.heap.size v n a m b) (hb:Below w.heap.size w w'):QR w' w'.heap.size v n a m b:=by obtain⟨A,l,c,A',l',c',e,h1,h2⟩:=h;exact⟨A,l,c,A',l',c',e,h1.step hb,h2.step hb⟩
abbrev aHz:=@QR.step
theorem WV.soft (h:WV w w.heap.size v z) (hs:Soft w w'):WV w' w'.heap.size v z:=by obtain⟨n,A,l,c,e,h1,h2⟩:=h;exact⟨n,A,l,c,e,RI.soft h1 hs,h2⟩
theorem TV.soft (h:TV w w.heap.size v z d) (hs:Soft w w'):TV w' w'.heap.size v z d:=by obtain⟨n,A,l,c,A',l',c',e,h1,h2,h3⟩:=h;exact⟨n,A,l,c,A',l',c',e,RI.soft h1 hs,RI.soft h2 hs,h3⟩
theorem QV.soft (h:QV w w.heap.size v q) (hs:Soft w w'):QV w' w'.heap.size v q:=by obtain⟨n,A,l,c,A',l',c',e,h1,h2,h3⟩:=h;exact⟨n,A,l,c,A',l',c',e,RI.soft h1 hs,RI.soft h2 hs,h3⟩
abbrev aKv:=@QV.soft
theorem QR.soft (h:QR w w.heap.size v n a m b) (hs:Soft w w'):QR w' w'.heap.size v n a m b:=by obtain⟨A,l,c,A',l',c',e,h1,h2⟩:=h;exact⟨A,l,c,A',l',c',e,h1.soft hs,h2.soft hs⟩
theorem RN.soft {l:List Nat} (h:RN w w.heap.size v l) (hs:Soft w w'):RN w' w'.heap.size v l:=RI.soft h hs
theorem QV.qr (h:QV w w.heap.size v q):QR w w.heap.size v (decide (q.num<0)) (ni (dig q.num.natAbs)) false (ni (dig q.den)):=by obtain⟨n,A,l,c,A',l',c',rfl,h1,h2,rfl⟩:=h;exact⟨A,l,c,A',l',c',rfl,h1,h2⟩
end
section
variable {w:World} {B:Nat} {n m:Bool} {A A':Option Addr} {l c l' c':Nat} {z:Int} {d:Nat} {q:Rat} {a b:List Int}
theorem WV.is (h:WV w B (.agg #[.bool n,.slice A l c]) z):RN w B (.slice A l c) (dig z.natAbs)∧(z≠0→n=decide (z<0)):=by
 obtain⟨n',A',l',c',e,h1,h2⟩:=h;injection e with e
 simp at e
 obtain⟨rfl,rfl,rfl,rfl⟩:=e;exact⟨h1,h2⟩
theorem WV.mk (h:RN w B (.slice A l c) (dig z.natAbs)) (hn:z≠0→n=decide (z<0)):WV w B (.agg #[.bool n,.slice A l c]) z:=⟨_,_,_,_,rfl,h,hn⟩
theorem TV.is (h:TV w B (.agg #[.bool n,.slice A l c,.slice A' l' c']) z d):RN w B (.slice A l c) (dig z.natAbs)∧RN w B (.slice A' l' c') (dig d)∧(z≠0→n=decide (z<0)):=by
 obtain⟨n1,A1,l1,c1,A2,l2,c2,e,h1,h2,h3⟩:=h;injection e with e
 simp at e
 obtain⟨rfl,⟨rfl,rfl,rfl⟩,rfl,rfl,rfl⟩:=e;exact⟨h1,h2,h3⟩
theorem TV.mk (h:RN w B (.slice A l c) (dig z.natAbs)) (h':RN w B (.slice A' l' c') (dig d)) (hn:z≠0→n=decide (z<0)):TV w B (.agg #[.bool n,.slice A l c,.slice A' l' c']) z d:=⟨_,_,_,_,_,_,_,rfl,h,h',hn⟩
abbrev aMd:=@TV.mk
theorem QV.is (h:QV w B (.agg #[.bool n,.slice A l c,.bool m,.slice A' l' c']) q):RN w B (.slice A l c) (dig q.num.natAbs)∧RN w B (.slice A' l' c') (dig q.den)∧n=decide (q.num<0)∧m=false:=by
 obtain⟨n1,A1,l1,c1,A2,l2,c2,e,h1,h2,h3⟩:=h;injection e with e
 simp at e
 obtain⟨rfl,⟨rfl,rfl,rfl⟩,rfl,rfl,rfl,rfl⟩:=e;exact⟨h1,h2,h3,rfl⟩
theorem QR.is (h:QR w B (.agg #[.bool n,.slice A l c,.bool m,.slice A' l' c']) n a m b):RI w B (.slice A l c) a∧RI w B (.slice A' l' c') b:=by
 obtain⟨A1,l1,c1,A2,l2,c2,e,h1,h2⟩:=h;injection e with e
 simp at e
 obtain⟨⟨rfl,rfl,rfl⟩,rfl,rfl,rfl⟩:=e;exact⟨h1,h2⟩
theorem QR.mk (h:RI w B (.slice A l c) a) (h':RI w B (.slice A' l' c') b):QR w B (.agg #[.bool n,.slice A l c,.bool m,.slice A' l' c']) n a m b:=⟨_,_,_,_,_,_,rfl,h,h'⟩
theorem QR.fst (h:QR w B (.agg #[.bool n,.slice A l c,.bool m,.slice A' l' c']) n a m b):LR w B (.agg #[.bool n,.slice A l c]) n a:=⟨_,rfl,h.is.1⟩
theorem QR.snd (h:QR w B (.agg #[.bool n,.slice A l c,.bool m,.slice A' l' c']) n a m b):LR w B (.agg #[.bool m,.slice A' l' c']) m b:=⟨_,rfl,h.is.2⟩
theorem QV.fst (h:QV w B (.agg #[.bool n,.slice A l c,.bool m,.slice A' l' c']) q):LV w B (.agg #[.bool n,.slice A l c]) q.num:=by
 obtain⟨h1,-,rfl,-⟩:=h.is;exact⟨_,rfl,h1⟩
theorem QV.snd (h:QV w B (.agg #[.bool n,.slice A l c,.bool m,.slice A' l' c']) q):LV w B (.agg #[.bool m,.slice A' l' c']) (q.den:Int):=by
 obtain⟨-,h1,-,rfl⟩:=h.is;exact⟨_,by rw[show decide ((q.den:Int)<0)=false from aEe (by omega)],by rw[aEr];exact h1⟩
end
noncomputable def nS (n:Bool) (a:List Int) (m:Bool) (b:List Int):Option Rat:=
 match kB n a,kB m b with
 | some x,some y=>if 0<y∧Nat.gcd x.natAbs y.natAbs=1 then some (mkRat x y.natAbs) else none
 | _,_=>none
theorem jC {x:Int} {y:Nat} (hy:0<y) (h:Nat.gcd x.natAbs y=1):(mkRat x y).num=x∧(mkRat x y).den=y:=
 mE (c:=1) (by decide) (Nat.ne_of_gt hy) (by simp) (by simp) h
theorem DM {n m:Bool} {a b:List Int} {q:Rat} (h:nS n a m b=some q):kB n a=some q.num∧kB m b=some (q.den:Int):=by
 unfold nS at h
 split at h
 ·rename_i x y hx hy
  split at h
  ·rename_i hc
   injection h with h
   have h1:=jC (x:=x) (y:=y.natAbs) (by omega) hc.2;rw[h] at h1;rw[hx,hy,h1.1,h1.2];exact⟨rfl,by rw[show((y.natAbs:Nat):Int)=y by omega]⟩
  ·cases h
 ·cases h
theorem YW (q:Rat) (h1:(dig q.num.natAbs).length≤600) (h2:(dig q.den).length≤600):nS (decide (q.num<0)) (ni (dig q.num.natAbs)) false (ni (dig q.den))=some q:=by
 unfold nS;have e1:=oI (z:=q.num) h1;have e2:=oI (z:=(q.den:Int)) (by rw[aEr];exact h2);rw[aEr,show decide ((q.den:Int)<0)=false from aEe (by omega)] at e2;rw[e1,e2];have hd:=aFy q.den_nz;have hr:Nat.gcd q.num.natAbs q.den=1:=q.reduced;simp only
 rw[aEr,aEv ⟨by omega,hr⟩,Rat.mkRat_self]
section
variable {P:Program} {ops:Array Oper} {Q:Exit→Act→World→Prop} {md:Region.Mode} {S:World→Prop} {t:Nat}
def Early (P:Program) (md:Region.Mode) (ops:Array Oper) (Q:Exit→Act→World→Prop) (S:World→Prop) (t:Nat):Nat→Array Bool→Act→World→Prop
 | 0,listed,a,w=>Region.ready md ops listed=[]∧Q .normal a w
 | f+1,listed,a,w=>(Region.ready md ops listed=[]→Q .normal a w) ∧
  ∀ i∈Region.ready md ops listed,wpOp P ops Q i (fun a' w'=>(i<t→S w')∧Early P md ops Q S t f (listed.setIfInBounds i true) a' w') a w
theorem Early.any:∀ (f:Nat) (listed:Array Bool) (a:Act) (w:World),Early P md ops Q S t f listed a w→wpAny P md ops Q f listed a w
 | 0,_,_,_,h=>h
 | f+1,_,_,_,h=>⟨h.1,fun i hi=>aMb (fun a' w' k=>Early.any f _ a' w' k.2) (h.2 i hi)⟩
def rY (md:Region.Mode) (ops:Array Oper):Nat→Nat→Nat→Bool
 | 0,_,_=>false
 | f+1,j,i=>Region.waitsFor md ops j i||(List.range ops.size).any fun r=>Region.waitsFor md ops j r&&rY md ops f r i
def tL (md:Region.Mode) (ops:Array Oper) (t i:Nat):Bool:=(List.range ops.size).all fun j=>decide (j<t)||rY md ops 4 j i
def Closed (md:Region.Mode) (ops:Array Oper) (listed:Array Bool):Prop:=
 ∀ (j:Nat) (oj:Oper),ops[j]?=some oj→listed.getD j false=true→∀ e∈oj.after,Region.binds md e=true→listed.getD e.on false=true
def uO (md:Region.Mode) (ops:Array Oper) (listed:Array Bool):Bool:=
 (List.range ops.size).all fun j=>match ops[j]? with
  | some oj=>!listed.getD j false||oj.after.all fun e=>!Region.binds md e||listed.getD e.on false
  | none=>true
theorem zO {listed:Array Bool} (h:uO md ops listed=true):Closed md ops listed:=by
 intro j oj hj hl e he hb;obtain⟨hs,-⟩:=aFx.1 hj;have h1:=aEx.1 h j (aKt.2 hs);simp only[hj,hl,Bool.not_true,Bool.false_or] at h1
 have h2:=(Array.all_eq_true'.1 h1) e he
 simpa[hb] using h2
theorem Closed.reach {listed:Array Bool} (hc:Closed md ops listed) {i:Nat}:∀ (f j:Nat),rY md ops f j i=true→(∀ oj,ops[j]?=some oj→∀ e∈oj.after,Region.binds md e=true→listed.getD e.on false=true)→listed.getD i false=true
 | 0,_,h,_=>by cases h
 | f+1,j,h,hj=>by
  unfold rY at h;rcases aGr.1 h with h | h
  ·obtain⟨oj,ho,e,he,hb,hon⟩:=aHs h;rw[← hon];exact hj oj ho e he hb
  ·obtain⟨r,-,hr⟩:=aJr.1 h;obtain⟨h1,h2⟩:=aFg.1 hr;obtain⟨oj,ho,e,he,hb,hon⟩:=aHs h1;have hl:=hj oj ho e he hb;rw[hon] at hl;exact Closed.reach hc f r h2 fun orr hor=>hc r orr hor hl
theorem gR {listed:Array Bool} (h:listed.getD i true=false):listed.getD i false=false:=by
 by_cases hs:i<listed.size
 ·simpa[hs] using h
 ·simp[hs]
theorem BL {listed:Array Bool} (h:listed.getD i false=true):(listed.setIfInBounds j true).getD i false=true:=by
 by_cases hij:j=i
 ·subst hij;by_cases hs:j<listed.size
  ·simp[hs]
  ·simp[hs] at h
 ·rwa [getD_set_ne false hij]
theorem Closed.set {listed:Array Bool} (hc:Closed md ops listed) {j:Nat} (hj:j∈Region.ready md ops listed):Closed md ops (listed.setIfInBounds j true):=by
 intro k ok hk hl e he hb;by_cases hjk:j=k
 ·subst hjk;obtain⟨-,oj,hoj,hall⟩:=aJe.1 hj;rw[hoj] at hk;injection hk with hk
  subst hk;exact BL (hall e he hb)
 ·rw[getD_set_ne false hjk] at hl;exact BL (hc k ok hk hl e he hb)
theorem Early.first {oi:Oper} (hi:ops[i]?=some oi) (hsel:∀ (j:Nat) (o:Oper) cs b,ops[j]?=some o→o.op≠.select cs b)
  (hl:tL md ops t i=true) (hQ:∀ c a w,Q (.panic c) (a.put oi.dst v) w→Q (.panic c) a w) :
  ∀ (f:Nat) (listed:Array Bool) (a:Act) (w:World),
   (∀ j oj,ops[j]?=some oj→j≠i→listed.getD j true=false→(∀ e∈oj.after,Region.binds md e=true→e.on≠i)→oi.apart ops oj=true) →
   Closed md ops listed→i∈Region.ready md ops listed→YieldsIf P ops S oi v a→S w →
   Early P md ops Q S t f (listed.setIfInBounds i true) (a.put oi.dst v) w→Early P md ops Q S t (f+1) listed a w:=by
 intro f
 induction f with
 | zero=>
  intro listed a w _ _ hr hy hS H;refine⟨fun h=>absurd hr (by rw[h];simp),fun j hj=>?_⟩;by_cases hji:j=i
  ·subst hji;exact hy.wpOp hi hS ⟨fun _=>hS,H⟩
  ·exact absurd (ready_mono hj hji) (by rw[H.1];simp)
 | succ f ih=>
  intro listed a w hfree hcl hr hy hS H;refine⟨fun h=>absurd hr (by rw[h];simp),fun j hj=>?_⟩;by_cases hji:j=i
  ·subst hji;exact hy.wpOp hi hS ⟨fun _=>hS,H⟩
  ·obtain⟨hjun,oj,hoj,hall⟩:=aJe.1 hj;have hnot:∀ e∈oj.after,Region.binds md e=true→e.on≠i:=by
    intro e he hb heq;have h1:=hall e he hb;have h0:=(aJe.1 hr).1;rw[heq] at h1;by_cases hs:i<listed.size
    ·simp[hs] at h0 h1;rw[h0] at h1;cases h1
    ·simp[aHj (Nat.le_of_not_lt hs)] at h1
   obtain⟨hjs,-⟩:=aFx.1 hoj;have hjt:j<t:=by
    rcases aGr.1 (aEx.1 hl j (aKt.2 hjs)) with h2 | h2
    ·simpa using h2
    ·have h3:=hcl.reach 4 j h2 fun oj' ho' e he hb=>by
      rw[hoj] at ho';injection ho' with ho'
      subst ho';exact hall e he hb
     rw[gR (aJe.1 hr).1] at h3;cases h3
   have h2:=wpOp_putIf hoj (hfree j oj hoj hji hjun hnot) (fun cs b=>hsel i oi cs b hi) (fun cs b=>hsel j oj cs b hoj) hQ hy (H.2 j (ready_mono hj hji));refine aMb (fun a' w' k=>?_) h2;have hSw:=k.2.1 hjt;refine⟨fun _=>hSw,ih (listed.setIfInBounds j true) a' w' ?_ (hcl.set hj) (ready_mono hr (aMj hji)) k.1 hSw ?_⟩
   ·intro m om hom hmi hun hno;refine hfree m om hom hmi ?_ hno;by_cases hjm:j=m
    ·subst hjm;exact hjun
    ·rwa [getD_set_ne true hjm] at hun
   ·rw[Array.setIfInBounds_comm _ _ hji];exact k.2.2
theorem Early.take {oi:Oper} (v:Value) {f:Nat} {listed:Array Bool} {a:Act} {w:World} (hi:ops[i]?=some oi)
  (hs:Region.noSelect ops=true) (hl:tL md ops t i=true) (hcl:uO md ops listed=true) (hf:Region.free md ops listed i=true) (hr:(Region.ready md ops listed).contains i=true)
  (hQ:∀ c a w,Q (.panic c) (a.put oi.dst v) w→Q (.panic c) a w) (hy:YieldsIf P ops S oi v a) (hS:S w)
  (h:Early P md ops Q S t f (listed.setIfInBounds i true) (a.put oi.dst v) w):Early P md ops Q S t (f+1) listed a w:=
 Early.first hi (aNb hs) hl hQ f listed a w (Region.free_spec hi hf) (zO hcl) (by simpa using hr) hy hS h
abbrev aFb:=@Early.take
theorem Early.firstW {oi:Oper} (hi:ops[i]?=some oi) (hsel:∀ (j:Nat) (o:Oper) cs b,ops[j]?=some o→o.op≠.select cs b)
  (ht:t≤i) (hQ:∀ c a w,Q (.panic c) (a.put oi.dst v) w→Q (.panic c) a w) :
  ∀ (f:Nat) (listed:Array Bool) (a:Act) (w:World),
   (∀ j oj,ops[j]?=some oj→j≠i→listed.getD j true=false→(∀ e∈oj.after,Region.binds md e=true→e.on≠i)→oi.apart ops oj=true) →
   i∈Region.ready md ops listed→YieldsIf P ops (fun _=>True) oi v a →
   Early P md ops Q S t f (listed.setIfInBounds i true) (a.put oi.dst v) w→Early P md ops Q S t (f+1) listed a w:=by
 intro f
 induction f with
 | zero=>
  intro listed a w _ hr hy H;refine⟨fun h=>absurd hr (by rw[h];simp),fun j hj=>?_⟩;by_cases hji:j=i
  ·subst hji;exact hy.wpOp hi aFi ⟨fun h=>absurd h (by omega),H⟩
  ·exact absurd (ready_mono hj hji) (by rw[H.1];simp)
 | succ f ih=>
  intro listed a w hfree hr hy H;refine⟨fun h=>absurd hr (by rw[h];simp),fun j hj=>?_⟩;by_cases hji:j=i
  ·subst hji;exact hy.wpOp hi aFi ⟨fun h=>absurd h (by omega),H⟩
  ·obtain⟨hjun,oj,hoj,hall⟩:=aJe.1 hj;have hnot:∀ e∈oj.after,Region.binds md e=true→e.on≠i:=by
    intro e he hb heq;have h1:=hall e he hb;have h0:=gR (aJe.1 hr).1;rw[heq,h0] at h1;cases h1
   have h2:=wpOp_putIf hoj (hfree j oj hoj hji hjun hnot) (fun cs b=>hsel i oi cs b hi) (fun cs b=>hsel j oj cs b hoj) hQ hy (H.2 j (ready_mono hj hji));refine aMb (fun a' w' k=>?_) h2;refine⟨k.2.1,ih (listed.setIfInBounds j true) a' w' ?_ (ready_mono hr (aMj hji)) k.1 ?_⟩
   ·intro m om hom hmi hun hno;refine hfree m om hom hmi ?_ hno;by_cases hjm:j=m
    ·subst hjm;exact hjun
    ·rwa [getD_set_ne true hjm] at hun
   ·rw[Array.setIfInBounds_comm _ _ hji];exact k.2.2
theorem Early.pure {oi:Oper} (v:Value) {f:Nat} {listed:Array Bool} {a:Act} {w:World} (hi:ops[i]?=some oi)
  (hs:Region.noSelect ops=true) (ht:t≤i) (hf:Region.free md ops listed i=true) (hr:(Region.ready md ops listed).contains i=true)
  (hQ:∀ c a w,Q (.panic c) (a.put oi.dst v) w→Q (.panic c) a w) (hy:YieldsIf P ops (fun _=>True) oi v a)
  (h:Early P md ops Q S t f (listed.setIfInBounds i true) (a.put oi.dst v) w):Early P md ops Q S t (f+1) listed a w:=
 Early.firstW hi (aNb hs) ht hQ f listed a w (Region.free_spec hi hf) (by simpa using hr) hy h
theorem Early.next {o:Oper} {listed:Array Bool} (hr:Region.ready md ops listed=[i]) (ho:ops[i]?=some o)
  (h:∀ K:Act→World→Prop,(∀ a w,(i<t→S w)→Early P md ops Q S t f (listed.setIfInBounds i true) a w→K a w)→if Region.wanted o (yielded ops a.tmps)=true then Oper.wp P o a w K Q else K (a.put o.dst undef) w) :
  Early P md ops Q S t (f+1) listed a w:=by
 refine⟨fun h0=>absurd (hr▸h0) (by simp),fun j hj=>?_⟩;rw[hr] at hj;obtain rfl:j=i:=by simpa using hj
 exact aDz ho (fun K hK=>h K (fun a w h1 h2=>hK a w ⟨h1,h2⟩))
abbrev aEq:=@Early.next
theorem Early.done {listed:Array Bool} (hr:Region.ready md ops listed=[]) (h:Q .normal a w):∀ f,Early P md ops Q S t f listed a w
 | 0=>⟨hr,h⟩
 | _+1=>⟨fun _=>h,by rw[hr];simp⟩
abbrev aIj:=@Early.done
theorem ET (i:Nat) {oi:Oper} (v:Value) {f:Nat} {listed:Array Bool} {a:Act} {w:World} (hi:ops[i]?=some oi) (hy:YieldsIf P ops S oi v a) (hS:S w)
  (h:Early P md ops Q S t f (listed.setIfInBounds i true) (a.put oi.dst v) w) (hs:Region.noSelect ops=true:=by kernel_rfl) (hl:tL md ops t i=true:=by kernel_rfl) (hcl:uO md ops listed=true:=by kernel_rfl) (hf:Region.free md ops listed i=true:=by kernel_rfl) (hr:(Region.ready md ops listed).contains i=true:=by kernel_rfl)
  (hQ:∀ c a w,Q (.panic c) (a.put oi.dst v) w→Q (.panic c) a w:=by exact fun _ _ _ h=>h):Early P md ops Q S t (f+1) listed a w:=aFb v hi hs hl hcl hf hr hQ hy hS h
theorem Early.start (t:Nat) (S:World→Prop) (hm:P.follows .mixedOrders=true)
  (h:Early P .any ops Q S t ops.size (Array.replicate ops.size false) a w.drew):(Code.region id ops true).wp P Q a w:=wp_region_any hm (Early.any _ _ _ _ h)
abbrev aIr:=@Early.start
end
section
variable {P:Program} {ops:Array Oper} {Q:Exit→Act→World→Prop} {md:Region.Mode}
def aP (a:Act) (xs:Nat→Value):List (Nat × Tmp)→Act
 | []=>a
 | p :: D=>(aP a xs D).put (some p.2) (xs p.1)
def XX (xs:Nat→Value) (i:Nat) (v:Value):Nat→Value:=fun j=>if j=i then v else xs j
theorem jN (xs:Nat→Value) (i:Nat) (v:Value):XX xs i v i=v:=aEv rfl
theorem kP (h:j≠i):XX xs i v j=xs j:=aEu h
theorem tS {ys:Nat→Value}:∀ {D:List (Nat × Tmp)},(∀ p∈D,xs p.1=ys p.1)→aP a xs D=aP a ys D
 | [],_=>rfl
 | p :: D,h=>by
  show(aP a xs D).put _ _=(aP a ys D).put _ _
  rw[tS (D:=D) fun q hq=>h q (aFo _ hq),h p (aFh ..)]
theorem YX (a:Act) (d:Tmp) (u v:Value):(a.put (some d) u).put (some d) v=a.put (some d) v:=by
 simp[Act.put]
theorem pU:∀ {D:List (Nat × Tmp)},(D.map (·.1)).Nodup→(D.map (·.2)).Nodup→∀ {p},p∈D→(aP a xs D).put (some p.2) v=aP a (XX xs p.1 v) D
 | [],_,_,_,h=>by cases h
 | q :: D,h1,h2,p,hp=>by
  rw[aMk,List.nodup_cons] at h1 h2;have keep:∀ r∈D,r.1≠q.1:=fun r hr e=>h1.1 (e▸aHx hr)
  rcases aHp.1 hp with rfl | hp
  ·show((aP a xs D).put (some p.2) (xs p.1)).put (some p.2) v=(aP a (XX xs p.1 v) D).put (some p.2) (XX xs p.1 v p.1)
   rw[YX,jN,tS fun r hr=>(kP (xs:=xs) (v:=v) (keep r hr))]
  ·show((aP a xs D).put (some q.2) (xs q.1)).put (some p.2) v=(aP a (XX xs p.1 v) D).put (some q.2) (XX xs p.1 v q.1)
   have hne:q.2≠p.2:=fun e=>h2.1 (e▸aHx hp)
   rw[Act.put_comm _ _ _ (fun d hd e=>hne (by injection hd with hd;injection e with e;rw[hd,e])),pU h1.2 h2.2 hp,kP (keep p hp).symm]
theorem qW (f:Tmp→Value):∀ {D:List (Nat × Tmp)},(D.map (·.1)).Nodup→∃ xs:Nat→Value,∀ p∈D,xs p.1=f p.2
 | [],_=>⟨fun _=>undef,fun _ h=>by cases h⟩
 | q :: D,h=>by
  rw[aMk,List.nodup_cons] at h;obtain⟨xs,hx⟩:=qW f h.2;refine⟨XX xs q.1 (f q.2),fun p hp=>?_⟩;rcases aHp.1 hp with rfl | hp
  ·exact jN ..
  ·have hne:p.1≠q.1:=fun e=>h.1 (e▸aHx hp)
   rw[kP hne,hx p hp]
theorem VP (a:Act) (d:Tmp):a.put (some d) (a.tmps.getD d undef)=a:=by
 cases a with
 | mk t ds=>
  simp only[Act.put,Act.mk.injEq,and_true]
  apply Array.ext
  ·simp
  ·intro i h1 h2;by_cases hi:d=i
   ·subst hi;simp[Array.getD,h2]
   ·exact Array.getElem_setIfInBounds_ne h2 hi
theorem iZ:∀ {D:List (Nat × Tmp)},(∀ p∈D,xs p.1=a.tmps.getD p.2 undef)→aP a xs D=a
 | [],_=>rfl
 | q :: D,h=>by
  show(aP a xs D).put _ _=a
  rw[iZ fun p hp=>h p (aFo _ hp),h q (aFh ..),VP]
def tJ (md:Region.Mode) (ops:Array Oper):List Nat→List (Nat × Tmp)→Bool
 | _,[]=>true
 | seen,p :: D=>(match ops[p.1]? with | some o=>(o.after.all fun e=>!Region.binds md e||seen.contains e.on)&&o.dst==some p.2 | none=>false)&&tJ md ops (p.1 :: seen) D
def aAs (md:Region.Mode) (ops:Array Oper) (E:List Nat) (o:Nat):Bool:=
 match ops[o]? with
 | none=>false
 | some oi=>(oi.after.all fun e=>!Region.binds md e||E.contains e.on)&&(List.range ops.size).all fun j=>E.contains j||j==o||Region.waitsFor md ops j o||match ops[j]? with
  | some oj=>oi.apart ops oj
  | none=>true
def UC (md:Region.Mode) (ops:Array Oper) (D:List (Nat × Tmp)) (E:List Nat):Bool:=
 Region.noSelect ops&&tJ md ops [] D&&((List.range ops.size).all fun j=>(D.any fun p=>p.1==j)||E.all fun e=>rY md ops 5 j e)&&D.all fun p=>E.contains p.1||aAs md ops E p.1
def kU (ops:Array Oper) (D:List (Nat × Tmp)):Array Bool:=((List.range ops.size).map fun j=>D.any fun p=>p.1==j).toArray
def jK (listed:Array Bool) (D:List (Nat × Tmp)):Nat:=D.countP fun p=>!listed.getD p.1 false
theorem jD {listed:Array Bool} (hi:i<listed.size) (hl:listed.getD i false=false):∀ {D:List (Nat × Tmp)},(D.map (·.1)).Nodup→(∃ p∈D,p.1=i)→jK (listed.setIfInBounds i true) D+1=jK listed D
 | [],_,h=>by obtain⟨_,h,_⟩:=h;cases h
 | q :: D,hn,h=>by
  rw[aMk,List.nodup_cons] at hn;unfold jK;rw[List.countP_cons,List.countP_cons];by_cases hq:q.1=i
  ·have h0:D.countP (fun p=>!(listed.setIfInBounds i true).getD p.1 false)=D.countP (fun p=>!listed.getD p.1 false):=by
    apply List.countP_congr
    intro p hp;rw[getD_set_ne false (fun e=>hn.1 (by rw[hq,e];exact aHx hp))]
   rw[h0,hq,hl,show(listed.setIfInBounds i true).getD i false=true by simp[hi]]
   rfl
  ·obtain⟨p,hp,he⟩:=h;have hp':p∈D:=by
    rcases aHp.1 hp with rfl | hp
    ·exact absurd he hq
    ·exact hp
   have ih:=jD hi hl hn.2 ⟨p,hp',he⟩;unfold jK at ih;rw[getD_set_ne false (fun e=>hq e.symm)]
   omega
theorem jR {listed:Array Bool}:∀ {D:List (Nat × Tmp)} {seen:List Nat},tJ md ops seen D=true→(∀ s∈seen,listed.getD s false=true)→(∃ p∈D,listed.getD p.1 false=false) →
  ∃ p∈D,listed.getD p.1 false=false∧∃ o,ops[p.1]?=some o∧∀ e∈o.after,Region.binds md e=true→listed.getD e.on false=true
 | [],_,_,_,h=>by obtain⟨_,h,_⟩:=h;cases h
 | q :: D,seen,ht,hs,h=>by
  unfold tJ at ht;obtain⟨h1,h2⟩:=aFg.1 ht;by_cases hq:listed.getD q.1 false=true
  ·obtain⟨p,hp,hu⟩:=h;have hp':p∈D:=by
    rcases aHp.1 hp with rfl | hp
    ·rw[hq] at hu;cases hu
    ·exact hp
   obtain⟨r,hr,k⟩:=jR h2 (fun s hsn=>by rcases aHp.1 hsn with rfl | hsn;exact hq;exact hs s hsn) ⟨p,hp',hu⟩
   exact⟨r,aFo _ hr,k⟩
  ·refine⟨q,aFh ..,by simpa using hq,?_⟩;cases ho:ops[q.1]? with
   | none=>rw[ho] at h1;cases h1
   | some o=>
    rw[ho] at h1;obtain⟨h3,-⟩:=aFg.1 h1;refine⟨o,rfl,fun e he hb=>?_⟩;have h4:=aMm.1 h3 e he;rw[hb] at h4;exact hs _ (by simpa using h4)
theorem gN:∀ {D:List (Nat × Tmp)} {seen:List Nat},tJ md ops seen D=true→∀ p∈D,∃ o,ops[p.1]?=some o∧o.dst=some p.2
 | [],_,_,_,h=>by cases h
 | q :: D,seen,ht,p,hp=>by
  unfold tJ at ht;obtain⟨h1,h2⟩:=aFg.1 ht;rcases aHp.1 hp with rfl | hp
  ·cases ho:ops[p.1]? with
   | none=>rw[ho] at h1;cases h1
   | some o=>
    rw[ho] at h1;exact⟨o,rfl,by simpa using(aFg.1 h1).2⟩
  ·exact gN h2 p hp
def eT (w w':World) (v:Value):Prop:=∃ b,v=.pointer (some ⟨b,0,none⟩)∧w.heap.size≤b∧b<w'.heap.size
structure OnWay (md:Region.Mode) (ops:Array Oper) (D:List (Nat × Tmp)) (N:List Nat) (F:Nat→Value→World→Prop) (a0:Act) (w0:World) (listed:Array Bool) (a:Act) (w:World):Prop where
 ex:∃ xs,a=aP a0 xs D∧(∀ p∈D,listed.getD p.1 false=true→F p.1 (xs p.1) w) ∧
  (∀ i∈N,listed.getD i false=true→eT w0 w (xs i))∧(∀ i∈N,∀ j∈N,i≠j→listed.getD i false=true→listed.getD j false=true→xs i≠xs j)
 below:Below w0.heap.size w0 w
 out:∀ j,(∀ p∈D,p.1≠j)→listed.getD j false=false
 size:listed.size=ops.size
 closed:Closed md ops listed
theorem OnWay.put {D:List (Nat × Tmp)} {N:List Nat} {F:Nat→Value→World→Prop} {a0:Act} {listed:Array Bool} {p:Nat × Tmp}
  (h1:(D.map (·.1)).Nodup) (h2:(D.map (·.2)).Nodup) (hF:∀ i v w w',F i v w→Below w.heap.size w w'→F i v w') (hp:p∈D) (hr:p.1∈Region.ready md ops listed)
  (hx:(∀ p∈D,listed.getD p.1 false=true→F p.1 (xs p.1) w)∧(∀ i∈N,listed.getD i false=true→eT w0 w (xs i))∧(∀ i∈N,∀ j∈N,i≠j→listed.getD i false=true→listed.getD j false=true→xs i≠xs j))
  (hb:Below w0.heap.size w0 w) (ho:∀ j,(∀ p∈D,p.1≠j)→listed.getD j false=false) (hs:listed.size=ops.size) (hc:Closed md ops listed)
  (hbw:Below w.heap.size w w') (hf:F p.1 v w') (hn:p.1∈N→eT w w' v) :
  OnWay md ops D N F a0 w0 (listed.setIfInBounds p.1 true) ((aP a0 xs D).put (some p.2) v) w':=by
 obtain⟨x1,x2,x3⟩:=hx;have hun:=gR (aJe.1 hr).1;have old:∀ j,j≠p.1→(listed.setIfInBounds p.1 true).getD j false=listed.getD j false:=fun j hj=>getD_set_ne false hj.symm
 have keepN:∀ {u},eT w0 w u→eT w0 w' u:=fun⟨b,e,k1,k2⟩=>⟨b,e,k1,aEt k2 hbw.size⟩
 have upN:p.1∈N→eT w0 w' v:=fun h=>by obtain⟨b,e,k1,k2⟩:=hn h;exact⟨b,e,aEg hb.size k1,k2⟩
 have apN:p.1∈N→∀ {u},eT w0 w u→u≠v:=fun h u ⟨b,e,k1,k2⟩ hu=>by
  obtain⟨b',e',k1',k2'⟩:=hn h;rw[e,e'] at hu;injection hu with hu;injection hu with hu;injection hu with hu _ _
  omega
 refine⟨⟨XX xs p.1 v,pU h1 h2 hp,?_,?_,?_⟩,hb.trans (hbw.mono hb.size),?_,by simpa using hs,hc.set hr⟩
 ·intro q hq hl;by_cases e:q.1=p.1
  ·rw[e,jN];exact hf
  ·rw[kP e];rw[old _ e] at hl;exact hF _ _ _ _ (x1 q hq hl) hbw
 ·intro i hi hl;by_cases e:i=p.1
  ·rw[e,jN];exact upN (e▸hi)
  ·rw[kP e];rw[old _ e] at hl;exact keepN (x2 i hi hl)
 ·intro i hi j hj hne hli hlj;by_cases e:i=p.1
  ·have e':j≠p.1:=fun h=>hne (e.trans h.symm)
   rw[old _ e'] at hlj;rw[e,jN,kP e'];exact(apN (e▸hi) (x2 j hj hlj)).symm
  ·rw[old _ e] at hli;by_cases e':j=p.1
   ·rw[e',jN,kP e];exact apN (e'▸hj) (x2 i hi hli)
   ·rw[old _ e'] at hlj;rw[kP e,kP e'];exact x3 i hi j hj hne hli hlj
 ·intro j hj;rw[getD_set_ne false (fun e=>hj p hp e)];exact ho j hj
theorem BM {D:List (Nat × Tmp)} {listed:Array Bool} (h:∀ p∈D,listed.getD p.1 false=true) (ho:∀ j,(∀ p∈D,p.1≠j)→listed.getD j false=false) (hs:listed.size=ops.size):listed=kU ops D:=by
 apply Array.ext
 ·simp[kU,hs]
 ·intro i h1 h2;have e1:listed[i]=listed.getD i false:=by simp[Array.getD,h1]
  have e2:(kU ops D)[i]=D.any fun p=>p.1==i:=by simp[kU]
  rw[e1,e2];by_cases hi:∃ p∈D,p.1=i
  ·obtain⟨p,hp,rfl⟩:=hi;rw[h p hp,eq_comm,aJr];exact⟨p,hp,by simp⟩
  ·rw[ho i fun p hp e=>hi ⟨p,hp,e⟩,eq_comm,List.any_eq_false];intro p hp e;exact hi ⟨p,hp,by simpa using e⟩
theorem WR {D:List (Nat × Tmp)} {E N:List Nat} {F:Nat→Value→World→Prop} {a0:Act} {f0:Nat}
  (h1:(D.map (·.1)).Nodup) (h2:(D.map (·.2)).Nodup) (hB:UC md ops D E=true) (hN:∀ i∈N,∃ p∈D,p.1=i)
  (hQ:∀ c a (d:Tmp) v w,Q (.panic c) (a.put (some d) v) w→Q (.panic c) a w)
  (hF:∀ i v w w',F i v w→Below w.heap.size w w'→F i v w')
  (hop:∀ p∈D,∀ xs w,Below w0.heap.size w0 w→(∀ q∈D,Region.waitsFor md ops p.1 q.1=true→F q.1 (xs q.1) w) →
   wpOp P ops Q p.1 (fun a' w'=>∃ v,a'=(aP a0 xs D).put (some p.2) v∧Below w.heap.size w w'∧F p.1 v w'∧(p.1∈N→eT w w' v)) (aP a0 xs D) w)
  (hopt:∀ p∈D,p.1∉E→p.1∉N∧∀ xs w,Below w0.heap.size w0 w→(∀ q∈D,Region.waitsFor md ops p.1 q.1=true→F q.1 (xs q.1) w)→∃ o v,ops[p.1]?=some o∧Yields P ops o v (aP a0 xs D)∧F p.1 v w)
  (hfin:∀ xs w,Below w0.heap.size w0 w→(∀ p∈D,F p.1 (xs p.1) w)→(∀ i∈N,eT w0 w (xs i))→(∀ i∈N,∀ j∈N,i≠j→xs i≠xs j)→wpAny P md ops Q f0 (kU ops D) (aP a0 xs D) w) :
  ∀ (m:Nat) (listed:Array Bool) (a:Act) (w:World),jK listed D=m→OnWay md ops D N F a0 w0 listed a w→wpAny P md ops Q (f0+m) listed a w:=by
 obtain⟨hB,hO⟩:=aFg.1 hB;obtain⟨hB,hL⟩:=aFg.1 hB;obtain⟨hS,hT⟩:=aFg.1 hB;intro m
 induction m with
 | zero=>
  intro listed a w hm hw;obtain⟨⟨xs,rfl,x1,x2,x3⟩,hb,ho,hs,hc⟩:=hw;have hall:∀ p∈D,listed.getD p.1 false=true:=fun p hp=>by
   have h0:=aNp.1 hm p hp
   simpa using h0
  have hN':∀ i∈N,listed.getD i false=true:=fun i hi=>by obtain⟨p,hp,rfl⟩:=hN i hi;exact hall p hp
  rw[BM hall ho hs];exact hfin xs w hb (fun p hp=>x1 p hp (hall p hp)) (fun i hi=>x2 i hi (hN' i hi)) (fun i hi j hj hne=>x3 i hi j hj hne (hN' i hi) (hN' j hj))
 | succ m ih=>
  intro listed a w hm hw;obtain⟨⟨xs,rfl,hx⟩,hb,ho,hs,hc⟩:=hw;have hex:∃ p∈D,listed.getD p.1 false=false:=by
   have h0:0<jK listed D:=by omega
   obtain⟨p,hp,h⟩:=aNo.1 h0;exact⟨p,hp,by simpa using h⟩
  have size_of:∀ {p:Nat × Tmp},p∈D→p.1<listed.size:=fun {p} hp=>by
   obtain⟨o,ho',-⟩:=gN hT p hp;obtain⟨h,-⟩:=aFx.1 ho';rw[hs];exact h
  have untrue:∀ {i:Nat},i<listed.size→listed.getD i false=false→listed.getD i true=false:=fun {i} hi h=>by
   simp[hi] at h ⊢;exact h
  have deps:∀ {p:Nat × Tmp},p.1∈Region.ready md ops listed→∀ q∈D,Region.waitsFor md ops p.1 q.1=true→F q.1 (xs q.1) w:=fun {p} hr q hq hwt=>by
   obtain⟨-,oj,hoj,hall⟩:=aJe.1 hr;obtain⟨oj',hoj',e,he,hbd,hon⟩:=aHs hwt;rw[hoj] at hoj';injection hoj' with hoj';subst hoj'
   exact hx.1 q hq (hon▸hall e he hbd)
  by_cases hE:∀ e∈E,listed.getD e false=true
  ·obtain⟨p,hp,hu⟩:=hex;have hpE:p.1∉E:=fun h=>by rw[hE _ h] at hu;cases hu
   have hob:aAs md ops E p.1=true:=by
    have h0:=aEx.1 hO p hp;rcases aGr.1 h0 with h0 | h0
    ·exact absurd (by simpa using h0) hpE
    ·exact h0
   obtain⟨hpN,hopt⟩:=hopt p hp hpE;obtain⟨oi,hoi,hdst⟩:=gN hT p hp;unfold aAs at hob;rw[hoi] at hob;obtain⟨ha,hj⟩:=aFg.1 hob;have hr:p.1∈Region.ready md ops listed:=aJe.2 ⟨untrue (size_of hp) hu,oi,hoi,fun e he hbd=>by
    have h4:=aMm.1 ha e he;rw[hbd] at h4;exact hE _ (by simpa using h4)⟩
   obtain⟨o,v,ho1,hy,hf⟩:=hopt xs w hb (deps hr);rw[hoi] at ho1;injection ho1 with ho1;subst ho1
   refine wpAny_first hoi (aNb hS) (fun c a w h=>hQ c a p.2 v w (hdst▸h)) (f0+m) listed _ w ?_ hr hy ?_
   ·intro j oj hoj hne hun hno;obtain⟨hjs,-⟩:=aFx.1 hoj;have h5:=aEx.1 hj j (aKt.2 hjs);rw[hoj] at h5;rcases aGr.1 h5 with h5 | h5
    ·rcases aGr.1 h5 with h5 | h5
     ·rcases aGr.1 h5 with h5 | h5
      ·have:=hE j (by simpa using h5);rw[gR hun] at this;cases this
      ·exact absurd (by simpa using h5) hne
     ·obtain⟨oj',hoj',e,he,hbd,hon⟩:=aHs h5;rw[hoj] at hoj';injection hoj' with hoj';subst hoj'
      exact absurd hon (hno e he hbd)
    ·exact h5
   ·refine ih _ _ _ ?_ (hdst▸OnWay.put h1 h2 hF hp hr hx hb ho hs hc (aDy _ _) hf (fun h=>absurd h hpN));have:=jD (size_of hp) hu h1 ⟨p,hp,rfl⟩
    omega
  ·show wpAny P md ops Q (f0+m+1) listed _ w
   refine⟨fun h0=>?_,fun i hi=>?_⟩
   ·obtain⟨p,hp,hu,o,ho1,hall⟩:=jR hT (fun _ h=>by cases h) hex;have hr:p.1∈Region.ready md ops listed:=aJe.2 ⟨untrue (size_of hp) hu,o,ho1,hall⟩;rw[h0] at hr;cases hr
   ·have hD:∃ p∈D,p.1=i:=by
     refine Classical.byContradiction fun hno=>hE fun e he=>?_
     obtain⟨hjun,oj,hoj,hall⟩:=aJe.1 hi;obtain⟨hjs,-⟩:=aFx.1 hoj;have h5:=aEx.1 hL i (aKt.2 hjs);rcases aGr.1 h5 with h5 | h5
     ·obtain⟨p,hp,h6⟩:=aJr.1 h5;exact absurd ⟨p,hp,by simpa using h6⟩ hno
     ·exact hc.reach 5 i (aEx.1 h5 e he) fun oj' ho' e he hb=>by
       rw[hoj] at ho';injection ho' with ho';subst ho'
       exact hall e he hb
    obtain⟨p,hp,rfl⟩:=hD;refine aMb (fun a' w' h=>?_) (hop p hp xs w hb (deps hi));obtain⟨v,rfl,hbw,hf,hn⟩:=h;refine ih _ _ _ ?_ (OnWay.put h1 h2 hF hp hi hx hb ho hs hc hbw hf hn);have:=jD (size_of hp) (gR (aJe.1 hi).1) h1 ⟨p,hp,rfl⟩
    omega
theorem Flow.start {D:List (Nat × Tmp)} {a0:Act} (E N:List Nat) (F:Nat→Value→World→Prop) (f0:Nat) (hm:P.follows .mixedOrders=true) (hf0:f0+D.length=ops.size)
  (h1:(D.map (·.1)).Nodup) (h2:(D.map (·.2)).Nodup) (hB:UC .any ops D E=true) (hN:∀ i∈N,∃ p∈D,p.1=i)
  (hQ:∀ c a (d:Tmp) v w,Q (.panic c) (a.put (some d) v) w→Q (.panic c) a w)
  (hF:∀ i v w w',F i v w→Below w.heap.size w w'→F i v w')
  (hop:∀ p∈D,∀ xs w',Below w.heap.size w w'→(∀ q∈D,Region.waitsFor .any ops p.1 q.1=true→F q.1 (xs q.1) w') →
   wpOp P ops Q p.1 (fun a' w''=>∃ v,a'=(aP a0 xs D).put (some p.2) v∧Below w'.heap.size w' w''∧F p.1 v w''∧(p.1∈N→eT w' w'' v)) (aP a0 xs D) w')
  (hopt:∀ p∈D,p.1∉E→p.1∉N∧∀ xs w',Below w.heap.size w w'→(∀ q∈D,Region.waitsFor .any ops p.1 q.1=true→F q.1 (xs q.1) w')→∃ o v,ops[p.1]?=some o∧Yields P ops o v (aP a0 xs D)∧F p.1 v w')
  (hfin:∀ xs w',Below w.heap.size w w'→(∀ p∈D,F p.1 (xs p.1) w')→(∀ i∈N,eT w w' (xs i))→(∀ i∈N,∀ j∈N,i≠j→xs i≠xs j)→Early P .any ops Q (fun _=>True) 0 f0 (kU ops D) (aP a0 xs D) w') :
  (Code.region id ops true).wp P Q a0 w:=by
 have hd:∀ {w':World},Below w.drew.heap.size w.drew w'→Below w.heap.size w w':=fun h=>⟨h.os,h.tape,h.output,h.size,h.block⟩
 refine wp_region_any hm ?_;rw[← hf0];obtain⟨xs,hxs⟩:=qW (fun t=>a0.tmps.getD t undef) h1;have hnone:∀ j,(Array.replicate (f0+D.length) false).getD j false=false:=fun j=>by simp[Array.getD]
 refine WR (w0:=w.drew) (f0:=f0) h1 h2 hB hN hQ hF (fun p hp xs w' hb=>hop p hp xs w' (hd hb)) (fun p hp hE=>⟨(hopt p hp hE).1,fun xs w' hb=>(hopt p hp hE).2 xs w' (hd hb)⟩)
  (fun xs w' hb k1 k2 k3=>Early.any _ _ _ _ (hfin xs w' (hd hb) k1 k2 k3)) D.length _ a0 w.drew ?_ ⟨⟨xs,(iZ hxs).symm,fun p _ h=>?_,fun i _ h=>?_,fun i _ j _ _ h=>?_⟩,aDy _ _,fun j _=>hnone j,by rw[Array.size_replicate,hf0],fun j oj _ h=>?_⟩
 ·unfold jK;rw[List.countP_eq_length];intro p _;rw[hnone];rfl
 all_goals (rw[hnone] at h;cases h)
structure yE where
 i:Nat
 d:Tmp
 F:Value→World→Prop
def bO (L:List yE):List (Nat × Tmp):=L.map fun o=>(o.i,o.d)
def NA (md:Region.Mode) (ops:Array Oper) (D:List (Nat × Tmp)) (E N:List Nat) (f0:Nat):Bool:=
 decide (D.map (·.1)).Nodup&&decide (D.map (·.2)).Nodup&&UC md ops D E&&(N.all fun i=>D.any fun p=>p.1==i)&&f0+D.length==ops.size&&E.all fun i=>D.any fun p=>p.1==i
theorem aI {α:Type} {P:α→Prop} {a:α} {l:List α} (h:P a) (hl:∀ o∈l,P o):∀ o∈a :: l,P o:=fun o ho=>by
 rcases aHp.1 ho with rfl | ho
 ·exact h
 ·exact hl o ho
theorem aD {α:Type} {P:α→Prop}:∀ o∈([]:List α),P o:=fun _ h=>by cases h
theorem uJ:∀ {L:List yE},((bO L).map (·.1)).Nodup→∀ {o o'},o∈L→o'∈L→o.i=o'.i→o=o'
 | [],_,_,_,h,_,_=>by cases h
 | q :: L,hn,o,o',h,h',e=>by
  have hn':((bO L).map (·.1)).Nodup∧∀ r∈L,r.i≠q.i:=by
   unfold bO at hn ⊢;rw[aMk,aMk,List.nodup_cons] at hn;refine⟨hn.2,fun r hr e=>hn.1 ?_⟩
   show q.i∈_
   rw[← e];exact aFc.2 ⟨(r.i,r.d),aFc.2 ⟨r,hr,rfl⟩,rfl⟩
  rcases aHp.1 h with k | k
  ·rcases aHp.1 h' with k' | k'
   ·rw[k,k']
   ·exact absurd (by rw[← e,k]) (hn'.2 o' k')
  ·rcases aHp.1 h' with k' | k'
   ·exact absurd (by rw[e,k']) (hn'.2 o k)
   ·exact uJ hn'.1 k k' e
theorem Flow.run {a0:Act} (L1 L2:List yE) (N:List Nat) (f0:Nat) (hm:P.follows .mixedOrders=true)
  (hC:NA .any ops (bO (L1++L2)) (L1.map (·.i)) N f0=true) (hNo:(L2.all fun o=>!N.contains o.i)=true)
  (hQ:∀ c a (d:Tmp) v w,Q (.panic c) (a.put (some d) v) w→Q (.panic c) a w)
  (hF:∀ o∈L1++L2,∀ v w w',o.F v w→Below w.heap.size w w'→o.F v w')
  (hop:∀ o∈L1,∀ xs w',Below w.heap.size w w'→(∀ q∈L1++L2,Region.waitsFor .any ops o.i q.i=true→q.F (xs q.i) w') →
   wpOp P ops Q o.i (fun a' w''=>∃ v,a'=(aP a0 xs (bO (L1++L2))).put (some o.d) v∧Below w'.heap.size w' w''∧o.F v w''∧(N.contains o.i=true→eT w' w'' v)) (aP a0 xs (bO (L1++L2))) w')
  (hopt:∀ o∈L2,∀ xs w',Below w.heap.size w w'→(∀ q∈L1++L2,Region.waitsFor .any ops o.i q.i=true→q.F (xs q.i) w')→∃ op v,ops[o.i]?=some op∧Yields P ops op v (aP a0 xs (bO (L1++L2)))∧o.F v w')
  (hfin:∀ xs w',Below w.heap.size w w'→(∀ o∈L1++L2,o.F (xs o.i) w')→(∀ i∈N,eT w w' (xs i))→(∀ i∈N,∀ j∈N,i≠j→xs i≠xs j) →
   Early P .any ops Q (fun _=>True) 0 f0 (kU ops (bO (L1++L2))) (aP a0 xs (bO (L1++L2))) w') :
  (Code.region id ops true).wp P Q a0 w:=by
 unfold NA at hC;simp only[aFs] at hC
 obtain⟨⟨⟨⟨⟨h1,h2⟩,hB⟩,hN⟩,hf0⟩,-⟩:=hC;replace h1:=aGw h1;replace h2:=aGw h2;have inD:∀ p∈bO (L1++L2),∃ o∈L1++L2,p=(o.i,o.d):=fun p hp=>by
  obtain⟨o,ho,rfl⟩:=aFc.1 hp;exact⟨o,ho,rfl⟩
 have toD:∀ o∈L1++L2,(o.i,o.d)∈bO (L1++L2):=fun o ho=>aFc.2 ⟨o,ho,rfl⟩
 have one:∀ {o:yE},o∈L1++L2→∀ {v w},o.F v w→∀ q∈L1++L2,q.i=o.i→q.F v w:=fun {o} ho {v w} h q hq e=>by
  obtain rfl:=uJ h1 hq ho e;exact h
 have notN:∀ o∈L2,o.i∉N:=fun o ho h=>by
  have:=aEx.1 hNo o ho;simp[h] at this
 have deps:∀ (i:Nat) (xs:Nat→Value) (w':World),(∀ q∈bO (L1++L2),Region.waitsFor .any ops i q.1=true→∀ o∈L1++L2,o.i=q.1→o.F (xs q.1) w')→∀ q∈L1++L2,Region.waitsFor .any ops i q.i=true→q.F (xs q.i) w':=
  fun i xs w' h q hq hw=>h (q.i,q.d) (toD q hq) hw q hq rfl
 refine Flow.start (D:=bO (L1++L2)) (L1.map (·.i)) N (fun i v w=>∀ o∈L1++L2,o.i=i→o.F v w) f0 hm (by simpa using hf0) h1 h2 hB (fun i hi=>?_) hQ (fun i v w w' h hb o ho e=>hF o ho v w w' (h o ho e) hb) ?_ ?_ ?_
 ·obtain⟨p,hp,e⟩:=aJr.1 (aEx.1 hN i hi);exact⟨p,hp,by simpa using e⟩
 ·intro p hp xs w' hb hd;obtain⟨o,ho,rfl⟩:=inD p hp;rcases aGb.1 ho with ho1 | ho2
  ·refine aMb (fun a' w'' h=>?_) (hop o ho1 xs w' hb (deps _ _ _ hd));obtain⟨v,e,hbw,hf,hn⟩:=h;exact⟨v,e,hbw,one ho hf,fun h=>hn (by simpa using h)⟩
  ·obtain⟨op,v,h3,hy,hf⟩:=hopt o ho2 xs w' hb (deps _ _ _ hd);refine hy.wpOp h3 ⟨v,?_,aDy _ _,one ho hf,fun h=>absurd h (notN o ho2)⟩;obtain⟨hT,hO⟩:=aFg.1 (aFg.1 (aFg.1 hB).1).1;obtain⟨o',ho',hd'⟩:=gN hO _ hp;rw[h3] at ho';injection ho' with ho';subst ho'
   rw[hd']
 ·intro p hp hE;obtain⟨o,ho,rfl⟩:=inD p hp;rcases aGb.1 ho with ho1 | ho2
  ·exact absurd (aHx ho1) hE
  ·refine⟨notN o ho2,fun xs w' hb hd=>?_⟩;obtain⟨op,v,h3,hy,hf⟩:=hopt o ho2 xs w' hb (deps _ _ _ hd);exact⟨op,v,h3,hy,one ho hf⟩
 ·intro xs w' hb k1 k2 k3;exact hfin xs w' hb (fun o ho=>k1 (o.i,o.d) (toD o ho) o ho rfl) k2 k3
end
theorem CB.set (h:CB w b t cs) (j:Nat) (u:Value):CB (w.setCell ⟨b,j,none⟩ u) b t (cs.setIfInBounds j u):=by
 unfold CB at h ⊢;simp[World.setCell,aKd,h]
abbrev aGj:=@CB.set
def bN:Value→Bool
 | .int _ _=>false
 | _=>true
theorem CB.soft1 (h:CB w b t cs) (hc:cs.all bN=true) (j:Nat) (u:Value):Soft w (w.setCell ⟨b,j,none⟩ u):=
 Soft.set (fun q hq k x e=>by
  unfold CB at h;subst hq;have h1:∃ i:Nat,cs[i]?=some (Value.int k x):=by
   simp only[World.cell?,h] at e
   first
    | exact⟨_,e⟩
    | (split at e <;> first | exact⟨_,e⟩ | cases e)
  obtain⟨i,hi⟩:=h1;have h2:=aMm.1 hc _ (aMu hi);cases h2)
abbrev aHk:=@CB.soft1
def QO (w:World) (B:Nat) (v:Value):Option Rat→Prop
 | some q=>QV w B v q
 | none=>QR w B v false [] false []
theorem QO.step:∀ {o:Option Rat},QO w w.heap.size v o→Below w.heap.size w w'→QO w' w'.heap.size v o
 | some _,h,hb=>aHf h hb
 | none,h,hb=>aHz h hb
abbrev aNi:=@QO.step
def uU (w:World) (r:Option Rat × Int) (e:Ending):Prop:=∃ v,e=.returned (.tuple #[v,.int .i64 r.2])∧QO w w.heap.size v r.1
def eS (q:Rat):Prop:=(dig q.num.natAbs).length≤600∧(dig q.den).length≤600
instance (q:Rat):Decidable (eS q):=by unfold eS;infer_instance
def gY (q:Rat):Option Rat × Int:=if eS q then (some q,0) else (none,6)
def B1 (f:Rat→Option Rat × Int):Option Rat→Option Rat × Int
 | some q=>f q
 | none=>(none,40)
def B2 (f:Rat→Rat→Option Rat × Int):Option Rat→Option Rat→Option Rat × Int
 | some q,some r=>f q r
 | _,_=>(none,40)
theorem kA (w:World) (B:Nat):QR w B (.agg #[.bool false,.slice none 0 0,.bool false,.slice none 0 0]) false [] false []:=QR.mk (RI.nil _ _) (RI.nil _ _)
theorem QB.ret {fn:Func} {p k:Tmp} {c3:Value} (hf:fn.results=#[.cell p 28,.tmp k]) (tmps:Array Value) (h:CB w b 28 #[c0,c1,c2,c3]) (hp:tmps.getD p undef=.pointer (some ⟨b,0,none⟩)) :
  (results fn tmps).run Tryz.prog w=.ok (.tuple #[.agg #[c0,c1,c2,c3],tmps.getD k undef]) w:=by
 rw[results_cell_tmp hf,hp];simp[asAddr,run_loadVar_row w b _ 28 #[c0,c1,c2,c3] (0,0) _ h Tryz.underlying28 rfl (by kernel_rfl)]
theorem QB.ret1 {fn:Func} {p:Tmp} {c3:Value} (hf:fn.results=#[.cell p 28]) (tmps:Array Value) (h:CB w b 28 #[c0,c1,c2,c3]) (hp:tmps.getD p undef=.pointer (some ⟨b,0,none⟩)) :
  (results fn tmps).run Tryz.prog w=.ok (.agg #[c0,c1,c2,c3]) w:=
 aKc hf tmps w b _ #[c0,c1,c2,c3] (0,0) _ hp h Tryz.underlying28 rfl (by kernel_rfl)
abbrev aMw:=@QB.ret1
theorem TB.ret1 {fn:Func} {p:Tmp} (hf:fn.results=#[.cell p 88]) (tmps:Array Value) (h:CB w b 88 #[c0,c1,c2]) (hp:tmps.getD p undef=.pointer (some ⟨b,0,none⟩)) :
  (results fn tmps).run Tryz.prog w=.ok (.agg #[c0,c1,c2]) w:=
 aKc hf tmps w b _ #[c0,c1,c2] (0,0) _ hp h Tryz.underlying88 rfl (by kernel_rfl)
theorem WB.ret1 {fn:Func} {p:Tmp} (hf:fn.results=#[.cell p 86]) (tmps:Array Value) (h:CB w b 86 #[c0,c1]) (hp:tmps.getD p undef=.pointer (some ⟨b,0,none⟩)) :
  (results fn tmps).run Tryz.prog w=.ok (.agg #[c0,c1]) w:=
 aKc hf tmps w b _ #[c0,c1] (0,0) _ hp h Tryz.underlying86 rfl (by kernel_rfl)
section
variable {w w':World} {t s u r p q:TypeId} {a b c d f g:Array Value}
theorem cL (e:w'=(w.alloc (.cells a t))):CB w' (w.heap.size) t a:=by rw[e];have h:=aHl w t a;simpa using h
theorem cK (e:w'=(w.alloc (.cells a t))):Below w.heap.size w w':=by rw[e];(repeat' (first | exact aDy _ _ | refine aJo ?_ | refine aIs ?_ (by first | exact aEa _ | (simp;done) | (simp;omega)) _))
theorem cJ (e:w'=(w.alloc (.cells a t))):w.heap.size+1≤w'.heap.size:=by rw[e];simp
theorem pM (e:w'=((w.alloc (.cells a t)).alloc (.cells b s))):CB w' (w.heap.size) t a:=by rw[e];have h:=(aHl w t a).alloc (.cells b s);simpa using h
theorem pL (e:w'=((w.alloc (.cells a t)).alloc (.cells b s))):CB w' (w.heap.size+1) s b:=by rw[e];have h:=aHl (w.alloc (.cells a t)) s b;simpa using h
theorem pK (e:w'=((w.alloc (.cells a t)).alloc (.cells b s))):Below w.heap.size w w':=by rw[e];(repeat' (first | exact aDy _ _ | refine aJo ?_ | refine aIs ?_ (by first | exact aEa _ | (simp;done) | (simp;omega)) _))
theorem pJ (e:w'=((w.alloc (.cells a t)).alloc (.cells b s))):w.heap.size+2≤w'.heap.size:=by rw[e];simp
theorem rX (e:w'=(((w.alloc (.cells a t)).alloc (.cells b s)).alloc (.cells c u))):CB w' (w.heap.size) t a:=by rw[e];have h:=((aHl w t a).alloc (.cells b s)).alloc (.cells c u);simpa using h
theorem rW (e:w'=(((w.alloc (.cells a t)).alloc (.cells b s)).alloc (.cells c u))):CB w' (w.heap.size+1) s b:=by rw[e];have h:=(aHl (w.alloc (.cells a t)) s b).alloc (.cells c u);simpa using h
theorem rT (e:w'=(((w.alloc (.cells a t)).alloc (.cells b s)).alloc (.cells c u))):CB w' (w.heap.size+2) u c:=by rw[e];have h:=aHl ((w.alloc (.cells a t)).alloc (.cells b s)) u c;simpa using h
theorem rS (e:w'=(((w.alloc (.cells a t)).alloc (.cells b s)).alloc (.cells c u))):Below w.heap.size w w':=by rw[e];(repeat' (first | exact aDy _ _ | refine aJo ?_ | refine aIs ?_ (by first | exact aEa _ | (simp;done) | (simp;omega)) _))
theorem rR (e:w'=(((w.alloc (.cells a t)).alloc (.cells b s)).alloc (.cells c u))):w.heap.size+3≤w'.heap.size:=by rw[e];simp
theorem aAy (e:w'=((((w.alloc (.cells a t)).alloc (.cells b s)).alloc (.cells c u)).alloc (.cells d r))):CB w' (w.heap.size) t a:=by rw[e];have h:=(((aHl w t a).alloc (.cells b s)).alloc (.cells c u)).alloc (.cells d r);simpa using h
theorem aAx (e:w'=((((w.alloc (.cells a t)).alloc (.cells b s)).alloc (.cells c u)).alloc (.cells d r))):CB w' (w.heap.size+1) s b:=by rw[e];have h:=((aHl (w.alloc (.cells a t)) s b).alloc (.cells c u)).alloc (.cells d r);simpa using h
theorem aAw (e:w'=((((w.alloc (.cells a t)).alloc (.cells b s)).alloc (.cells c u)).alloc (.cells d r))):CB w' (w.heap.size+2) u c:=by rw[e];have h:=(aHl ((w.alloc (.cells a t)).alloc (.cells b s)) u c).alloc (.cells d r);simpa using h
theorem aAv (e:w'=((((w.alloc (.cells a t)).alloc (.cells b s)).alloc (.cells c u)).alloc (.cells d r))):CB w' (w.heap.size+3) r d:=by rw[e];have h:=aHl (((w.alloc (.cells a t)).alloc (.cells b s)).alloc (.cells c u)) r d;simpa using h
theorem aAu (e:w'=((((w.alloc (.cells a t)).alloc (.cells b s)).alloc (.cells c u)).alloc (.cells d r))):Below w.heap.size w w':=by rw[e];(repeat' (first | exact aDy _ _ | refine aJo ?_ | refine aIs ?_ (by first | exact aEa _ | (simp;done) | (simp;omega)) _))
theorem aAt (e:w'=((((w.alloc (.cells a t)).alloc (.cells b s)).alloc (.cells c u)).alloc (.cells d r))):w.heap.size+4≤w'.heap.size:=by rw[e];simp
end
section
variable {W w w':World} {b c i0 i1 i2 i3:Nat} {t:TypeId} {cs:Array Value} {v x x0 x1 x2 x3 y0 y1 y2 y3:Value}
theorem iQ (e:w'=(w.setCell ⟨b,i0,none⟩ y0)) (h:CB w c t cs) (hne:c≠b):CB w' c t cs:=by rw[e];exact aMl (p:=⟨b,i0,none⟩) (h) hne _
theorem qM (e:w'=(w.setCell ⟨b,i0,none⟩ y0)) (h:Below W.heap.size W w) (hb:W.heap.size≤b):Below W.heap.size W w':=by rw[e];exact bV (h) hb _ _
theorem xQ (e:w'=(w.setCell ⟨b,i0,none⟩ y0)):w'.heap.size=w.heap.size:=by rw[e];simp[World.setCell]
theorem pI (e:w'=((w.setCell ⟨b,i0,none⟩ y0).setCell ⟨b,i1,none⟩ y1)) (h:CB w c t cs) (hne:c≠b):CB w' c t cs:=by rw[e];exact aMl (p:=⟨b,i1,none⟩) (aMl (p:=⟨b,i0,none⟩) (h) hne _) hne _
theorem JK (e:w'=((w.setCell ⟨b,i0,none⟩ y0).setCell ⟨b,i1,none⟩ y1)) (h:Below W.heap.size W w) (hb:W.heap.size≤b):Below W.heap.size W w':=by rw[e];exact bV (bV (h) hb _ _) hb _ _
theorem JH (e:w'=((w.setCell ⟨b,i0,none⟩ y0).setCell ⟨b,i1,none⟩ y1)):w'.heap.size=w.heap.size:=by rw[e];simp[World.setCell]
theorem JJ (e:w'=((w.setCell ⟨b,0,none⟩ y0).setCell ⟨b,1,none⟩ y1)) (h:CB w b t #[x0,x1]):CB w' b t #[y0,y1]:=by rw[e];exact(show CB _ b t #[y0,y1] from aGj (show CB _ b t #[y0,x1] from aGj h 0 y0) 1 y1)
theorem JI (e:w'=((w.setCell ⟨b,0,none⟩ y0).setCell ⟨b,1,none⟩ y1)) (h:CB w b t #[x0,x1]) (hx:(#[x0,x1,y0,y1]:Array Value).all bN=true):Soft w w':=by
 have hx:bN x0=true∧bN x1=true∧bN y0=true∧bN y1=true:=by simpa using hx
 rw[e];exact(aHk h (by simp[hx]) 0 y0).trans (aHk (show CB _ b t #[y0,x1] from aGj h 0 y0) (by simp[hx]) 1 y1)
theorem aCg (e:w'=(((w.setCell ⟨b,i0,none⟩ y0).setCell ⟨b,i1,none⟩ y1).setCell ⟨b,i2,none⟩ y2)) (h:CB w c t cs) (hne:c≠b):CB w' c t cs:=by rw[e];exact aMl (p:=⟨b,i2,none⟩) (aMl (p:=⟨b,i1,none⟩) (aMl (p:=⟨b,i0,none⟩) (h) hne _) hne _) hne _
theorem aDh (e:w'=(((w.setCell ⟨b,i0,none⟩ y0).setCell ⟨b,i1,none⟩ y1).setCell ⟨b,i2,none⟩ y2)) (h:Below W.heap.size W w) (hb:W.heap.size≤b):Below W.heap.size W w':=by rw[e];exact bV (bV (bV (h) hb _ _) hb _ _) hb _ _
theorem aDe (e:w'=(((w.setCell ⟨b,i0,none⟩ y0).setCell ⟨b,i1,none⟩ y1).setCell ⟨b,i2,none⟩ y2)):w'.heap.size=w.heap.size:=by rw[e];simp[World.setCell]
theorem aDg (e:w'=(((w.setCell ⟨b,0,none⟩ y0).setCell ⟨b,1,none⟩ y1).setCell ⟨b,2,none⟩ y2)) (h:CB w b t #[x0,x1,x2]):CB w' b t #[y0,y1,y2]:=by rw[e];exact(show CB _ b t #[y0,y1,y2] from aGj (show CB _ b t #[y0,y1,x2] from aGj (show CB _ b t #[y0,x1,x2] from aGj h 0 y0) 1 y1) 2 y2)
theorem aDf (e:w'=(((w.setCell ⟨b,0,none⟩ y0).setCell ⟨b,1,none⟩ y1).setCell ⟨b,2,none⟩ y2)) (h:CB w b t #[x0,x1,x2]) (hx:(#[x0,x1,x2,y0,y1,y2]:Array Value).all bN=true):Soft w w':=by
 have hx:bN x0=true∧bN x1=true∧bN x2=true∧bN y0=true∧bN y1=true∧bN y2=true:=by simpa using hx
 rw[e];exact((aHk h (by simp[hx]) 0 y0).trans (aHk (show CB _ b t #[y0,x1,x2] from aGj h 0 y0) (by simp[hx]) 1 y1)).trans (aHk (show CB _ b t #[y0,y1,x2] from aGj (show CB _ b t #[y0,x1,x2] from aGj h 0 y0) 1 y1) (by simp[hx]) 2 y2)
theorem rQ (e:w'=((((w.setCell ⟨b,i0,none⟩ y0).setCell ⟨b,i1,none⟩ y1).setCell ⟨b,i2,none⟩ y2).setCell ⟨b,i3,none⟩ y3)) (h:CB w c t cs) (hne:c≠b):CB w' c t cs:=by rw[e];exact aMl (p:=⟨b,i3,none⟩) (aMl (p:=⟨b,i2,none⟩) (aMl (p:=⟨b,i1,none⟩) (aMl (p:=⟨b,i0,none⟩) (h) hne _) hne _) hne _) hne _
theorem oW (e:w'=((((w.setCell ⟨b,i0,none⟩ y0).setCell ⟨b,i1,none⟩ y1).setCell ⟨b,i2,none⟩ y2).setCell ⟨b,i3,none⟩ y3)) (h:Below W.heap.size W w) (hb:W.heap.size≤b):Below W.heap.size W w':=by rw[e];exact bV (bV (bV (bV (h) hb _ _) hb _ _) hb _ _) hb _ _
theorem oT (e:w'=((((w.setCell ⟨b,i0,none⟩ y0).setCell ⟨b,i1,none⟩ y1).setCell ⟨b,i2,none⟩ y2).setCell ⟨b,i3,none⟩ y3)):w'.heap.size=w.heap.size:=by rw[e];simp[World.setCell]
theorem oV (e:w'=((((w.setCell ⟨b,0,none⟩ y0).setCell ⟨b,1,none⟩ y1).setCell ⟨b,2,none⟩ y2).setCell ⟨b,3,none⟩ y3)) (h:CB w b t #[x0,x1,x2,x3]):CB w' b t #[y0,y1,y2,y3]:=by rw[e];exact(show CB _ b t #[y0,y1,y2,y3] from aGj (show CB _ b t #[y0,y1,y2,x3] from aGj (show CB _ b t #[y0,y1,x2,x3] from aGj (show CB _ b t #[y0,x1,x2,x3] from aGj h 0 y0) 1 y1) 2 y2) 3 y3)
theorem oU (e:w'=((((w.setCell ⟨b,0,none⟩ y0).setCell ⟨b,1,none⟩ y1).setCell ⟨b,2,none⟩ y2).setCell ⟨b,3,none⟩ y3)) (h:CB w b t #[x0,x1,x2,x3]) (hx:(#[x0,x1,x2,x3,y0,y1,y2,y3]:Array Value).all bN=true):Soft w w':=by
 have hx:bN x0=true∧bN x1=true∧bN x2=true∧bN x3=true∧bN y0=true∧bN y1=true∧bN y2=true∧bN y3=true:=by simpa using hx
 rw[e];exact(((aHk h (by simp[hx]) 0 y0).trans (aHk (show CB _ b t #[y0,x1,x2,x3] from aGj h 0 y0) (by simp[hx]) 1 y1)).trans (aHk (show CB _ b t #[y0,y1,x2,x3] from aGj (show CB _ b t #[y0,x1,x2,x3] from aGj h 0 y0) 1 y1) (by simp[hx]) 2 y2)).trans (aHk (show CB _ b t #[y0,y1,y2,x3] from aGj (show CB _ b t #[y0,y1,x2,x3] from aGj (show CB _ b t #[y0,x1,x2,x3] from aGj h 0 y0) 1 y1) 2 y2) (by simp[hx]) 3 y3)
end
theorem aF (n:Bool):bN (.bool n)=true:=rfl
theorem aE (A:Option Addr) (l c:Nat):bN (.slice A l c)=true:=rfl
section
variable {fn:Func} {p k:Tmp} {W w:World} {B b:Nat} {x0 x1 x2 x3:Value} {n m:Bool} {A A':Option Addr} {l c l' c':Nat} {tmps:Array Value}
set_option linter.unusedSimpArgs false in
theorem WB.fin (hf:fn.results=#[.cell p 86]) (hC:CB w b 86 #[x0,x1]) (hx:(#[x0,x1]:Array Value).all bN=true) (hb:Below B W w) (hB:B≤b) {z:Int}
  (hv:WV w w.heap.size (.agg #[.bool n,.slice A l c]) z) (hp:tmps.getD p undef=.pointer (some ⟨b,0,none⟩)) :
  bodyPost Tryz.prog fn (fun e w'=>Below B W w'∧∃ v,e=.returned v∧WV w' w'.heap.size v z) .ret ⟨tmps,[]⟩ ((w.setCell ⟨b,0,none⟩ (.bool n)).setCell ⟨b,1,none⟩ (.slice A l c)):=by
 have h1:CB _ b _ #[.bool n,x1]:=aGj hC 0 (.bool n);have h2:CB _ b _ #[.bool n,.slice A l c]:=aGj h1 1 (.slice A l c);have hx1:bN x1=true:=by simp at hx;exact hx.2
 exact aFv (WB.ret1 hf _ h2 hp) rfl ⟨((hb.setCell hB _).setCell hB _),_,rfl,hv.soft ((aHk hC hx _ _).trans (aHk h1 (by simp[aF,aE,hx1]) _ _))⟩
set_option linter.unusedSimpArgs false in
theorem TB.fin (hf:fn.results=#[.cell p 88]) (hC:CB w b 88 #[x0,x1,x2]) (hx:(#[x0,x1,x2]:Array Value).all bN=true) (hb:Below B W w) (hB:B≤b) {z:Int} {d:Nat}
  (hv:TV w w.heap.size (.agg #[.bool n,.slice A l c,.slice A' l' c']) z d) (hp:tmps.getD p undef=.pointer (some ⟨b,0,none⟩)) :
  bodyPost Tryz.prog fn (fun e w'=>Below B W w'∧∃ v,e=.returned v∧TV w' w'.heap.size v z d) .ret ⟨tmps,[]⟩ (((w.setCell ⟨b,0,none⟩ (.bool n)).setCell ⟨b,1,none⟩ (.slice A l c)).setCell ⟨b,2,none⟩ (.slice A' l' c')):=by
 have h1:CB _ b _ #[.bool n,x1,x2]:=aGj hC 0 (.bool n);have h2:CB _ b _ #[.bool n,.slice A l c,x2]:=aGj h1 1 (.slice A l c);have h3:CB _ b _ #[.bool n,.slice A l c,.slice A' l' c']:=aGj h2 2 (.slice A' l' c');have hx1:bN x1=true:=by simp at hx;exact hx.2.1
 have hx2:bN x2=true:=by simp at hx;exact hx.2.2
 exact aFv (TB.ret1 hf _ h3 hp) rfl ⟨(((hb.setCell hB _).setCell hB _).setCell hB _),_,rfl,hv.soft (((aHk hC hx _ _).trans (aHk h1 (by simp[aF,aE,hx1,hx2]) _ _)).trans (aHk h2 (by simp[aF,aE,hx2]) _ _))⟩
set_option linter.unusedSimpArgs false in
theorem TB.fine (hf:fn.results=#[.cell p 88]) (hC:CB w b 88 #[x0,x1,x2]) (hx:(#[x0,x1,x2]:Array Value).all bN=true) (hb:Below B W w) (hB:B≤b) {z:Int} {d:Nat}
  (hv:TV w w.heap.size (.agg #[.bool n,.slice A l c,.slice A' l' c']) z d) (hp:tmps.getD p undef=.pointer (some ⟨b,0,none⟩)) :
  bodyPost Tryz.prog fn (fun e w'=>Below B W w'∧e=.returned (.agg #[.bool n,.slice A l c,.slice A' l' c'])∧TV w' w'.heap.size (.agg #[.bool n,.slice A l c,.slice A' l' c']) z d) .ret ⟨tmps,[]⟩ (((w.setCell ⟨b,0,none⟩ (.bool n)).setCell ⟨b,1,none⟩ (.slice A l c)).setCell ⟨b,2,none⟩ (.slice A' l' c')):=by
 have h1:CB _ b _ #[.bool n,x1,x2]:=aGj hC 0 (.bool n);have h2:CB _ b _ #[.bool n,.slice A l c,x2]:=aGj h1 1 (.slice A l c);have h3:CB _ b _ #[.bool n,.slice A l c,.slice A' l' c']:=aGj h2 2 (.slice A' l' c');have hx1:bN x1=true:=by simp at hx;exact hx.2.1
 have hx2:bN x2=true:=by simp at hx;exact hx.2.2
 exact aFv (TB.ret1 hf _ h3 hp) rfl ⟨(((hb.setCell hB _).setCell hB _).setCell hB _),rfl,hv.soft (((aHk hC hx _ _).trans (aHk h1 (by simp[aF,aE,hx1,hx2]) _ _)).trans (aHk h2 (by simp[aF,aE,hx2]) _ _))⟩
set_option linter.unusedSimpArgs false in
theorem QB.fin (hf:fn.results=#[.cell p 28,.tmp k]) (hC:CB w b 28 #[x0,x1,x2,x3]) (hx:(#[x0,x1,x2,x3]:Array Value).all bN=true) (hb:Below B W w) (hB:B≤b) {r:Option Rat × Int}
  (hv:QO w w.heap.size (.agg #[.bool n,.slice A l c,.bool m,.slice A' l' c']) r.1) (hp:tmps.getD p undef=.pointer (some ⟨b,0,none⟩)) (hk:tmps.getD k undef=.int .i64 r.2) :
  bodyPost Tryz.prog fn (fun e w'=>Below B W w'∧uU w' r e) .ret ⟨tmps,[]⟩ ((((w.setCell ⟨b,0,none⟩ (.bool n)).setCell ⟨b,1,none⟩ (.slice A l c)).setCell ⟨b,2,none⟩ (.bool m)).setCell ⟨b,3,none⟩ (.slice A' l' c')):=by
 have h1:CB _ b _ #[.bool n,x1,x2,x3]:=aGj hC 0 (.bool n);have h2:CB _ b _ #[.bool n,.slice A l c,x2,x3]:=aGj h1 1 (.slice A l c);have h3:CB _ b _ #[.bool n,.slice A l c,.bool m,x3]:=aGj h2 2 (.bool m);have h4:CB _ b _ #[.bool n,.slice A l c,.bool m,.slice A' l' c']:=aGj h3 3 (.slice A' l' c');have hx1:bN x1=true:=by simp at hx;exact hx.2.1
 have hx2:bN x2=true:=by simp at hx;exact hx.2.2.1
 have hx3:bN x3=true:=by simp at hx;exact hx.2.2.2
 have hs:=(((aHk hC hx 0 (.bool n)).trans (aHk h1 (by simp[aF,aE,hx1,hx2,hx3]) 1 (.slice A l c))).trans (aHk h2 (by simp[aF,aE,hx2,hx3]) 2 (.bool m))).trans (aHk h3 (by simp[aF,aE,hx3]) 3 (.slice A' l' c'));refine aFv (QB.ret hf _ h4 hp) rfl ⟨((((hb.setCell hB _).setCell hB _).setCell hB _).setCell hB _),.agg #[.bool n,.slice A l c,.bool m,.slice A' l' c'],by rw[hk],?_⟩
 match r.1,hv with
 | some q,h=>exact aKv h hs
 | none,h=>exact QR.soft h hs
abbrev aLp:=@QB.fin
end
theorem FL:(∀ L:List yE,bO L=L.map fun o=>(o.i,o.d))∧(∀ (a:yE) (l m:List yE),(a :: l)++m=a :: (l++m))∧(∀ l:List yE,[]++l=l)∧(∀ (f:yE→Nat × Tmp) (a:yE) (l:List yE),(a :: l).map f=f a :: l.map f)∧(∀ f:yE→Nat × Tmp,([]:List yE).map f=[]) ∧
  (∀ (a:Act) (xs:Nat→Value),aP a xs []=a)∧(∀ (a:Act) (xs:Nat→Value) (p:Nat × Tmp) (D:List (Nat × Tmp)),aP a xs (p :: D)=(aP a xs D).put (some p.2) (xs p.1)) ∧
  (∀ (t:Array Value) (ds:List Deferred) (d:Tmp) (v:Value),Act.put ⟨t,ds⟩ (some d) v=⟨t.setIfInBounds d v,ds⟩)∧(∀ (l:List Value) (i:Nat) (v:Value),l.toArray.setIfInBounds i v=(l.set i v).toArray) ∧
  (∀ (a b:Value) (l:List Value),(a :: l).set 0 b=b :: l)∧(∀ (a b:Value) (l:List Value) (n:Nat),(a :: l).set (n+1) b=a :: l.set n b):=
 ⟨fun _=>rfl,fun _ _ _=>rfl,fun _=>rfl,fun _ _ _=>rfl,fun _=>rfl,fun _ _=>rfl,fun _ _ _ _=>rfl,fun _ _ _ _=>rfl,fun _ _ _=>aJa ..,fun _ _ _=>rfl,fun _ _ _ _=>rfl⟩
theorem a0 {d:Tmp} {f:Value→Prop} {l:List yE} (h:∀ o∈l,∀ v w w',o.F v w→Below w.heap.size w w'→o.F v w'):∀ o∈(⟨i,d,fun v _=>f v⟩ :: l:List yE),∀ v w w',o.F v w→Below w.heap.size w w'→o.F v w':=aI (fun _ _ _ h _=>h) h
theorem bk (h:Below B w w'):Hi (Below B w w')∧w.heap.size≤w'.heap.size:=⟨@Lib.hid _ h,h.size⟩
theorem nF {P:Prop} (h:false=true):P:=absurd h Bool.false_ne_true
theorem m_ {α:Type} {l:List α} (i:Nat) {a:α} (h:l[i]?=some a):a∈l:=List.mem_of_getElem? h
section
variable {P:Program} {ops:Array Oper} {Q:Exit→Act→World→Prop} {md:Region.Mode}
def JM (base:Array Bool) (n:Nat):List Nat:=(List.range n).filter fun j=>base.getD j false
def iB (base:Array Bool):List (Nat × Tmp)→Array Bool
 | []=>base
 | p :: D=>(iB base D).setIfInBounds p.1 true
def AO (md:Region.Mode) (ops:Array Oper) (base:Array Bool) (D:List (Nat × Tmp)) (z:Nat):Bool:=
 tJ md ops (JM base ops.size) D &&
 ((List.range ops.size).all fun j=>base.getD j false||(D.any fun p=>p.1==j)||match ops[j]? with
  | some o=>o.after.any fun e=>Region.binds md e&&(e.on==z||(!base.getD e.on false&&!D.any fun p=>p.1==e.on))
  | none=>true) &&
 (D.all fun p=>!base.getD p.1 false&&(p.1==z||D.any fun q=>decide (p.1<q.1)&&Region.waitsFor md ops q.1 p.1))&&uO md ops base&&base.size==ops.size
structure aBq (md:Region.Mode) (ops:Array Oper) (base:Array Bool) (D:List (Nat × Tmp)) (F:Nat→Value→World→Prop) (a0:Act) (w0:World) (listed:Array Bool) (a:Act) (w:World):Prop where
 ex:∃ xs,a=aP a0 xs D∧∀ p∈D,listed.getD p.1 false=true→F p.1 (xs p.1) w
 below:Below w0.heap.size w0 w
 out:∀ j,(∀ p∈D,p.1≠j)→listed.getD j false=base.getD j false
 size:listed.size=ops.size
 closed:Closed md ops listed
theorem nI {base:Array Bool}:∀ {D:List (Nat × Tmp)},(iB base D).size=base.size
 | []=>rfl
 | p :: D=>by show((iB base D).setIfInBounds p.1 true).size=_;simp[nI (D:=D)]
theorem yR {base:Array Bool}:∀ {D:List (Nat × Tmp)} {p:Nat × Tmp},p∈D→p.1<base.size→(iB base D).getD p.1 false=true
 | q :: D,p,hp,hs=>by
  show((iB base D).setIfInBounds q.1 true).getD p.1 false=true
  by_cases e:q.1=p.1
  ·rw[e];simp[nI,hs]
  ·rw[getD_set_ne false e];rcases aHp.1 hp with rfl | hp
   ·exact absurd rfl e
   ·exact yR hp hs
theorem vZ {base:Array Bool}:∀ {D:List (Nat × Tmp)},(∀ p∈D,p.1≠j)→(iB base D).getD j false=base.getD j false
 | [],_=>rfl
 | q :: D,h=>by
  show((iB base D).setIfInBounds q.1 true).getD j false=_
  rw[getD_set_ne false (h q (aFh ..)),vZ fun p hp=>h p (aFo _ hp)]
theorem WP {base listed:Array Bool} {D:List (Nat × Tmp)} (h:∀ p∈D,listed.getD p.1 false=true) (ho:∀ j,(∀ p∈D,p.1≠j)→listed.getD j false=base.getD j false) (hs:listed.size=base.size):listed=iB base D:=by
 apply Array.ext
 ·rw[nI,hs]
 ·intro i h1 h2;have e1:listed[i]=listed.getD i false:=by simp[Array.getD,h1]
  have e2:(iB base D)[i]=(iB base D).getD i false:=by simp[Array.getD,h2]
  rw[e1,e2];by_cases hi:∃ p∈D,p.1=i
  ·obtain⟨p,hp,rfl⟩:=hi;rw[h p hp,yR hp (by rw[← hs];exact h1)]
  ·have hi':∀ p∈D,p.1≠i:=fun p hp e=>hi ⟨p,hp,e⟩
   rw[ho i hi',vZ hi']
theorem TM {base:Array Bool} {D:List (Nat × Tmp)} {z:Nat} {F:Nat→Value→World→Prop} {a0:Act} {f0:Nat}
  (h1:(D.map (·.1)).Nodup) (h2:(D.map (·.2)).Nodup) (hB:AO md ops base D z=true)
  (hF:∀ i v w w',F i v w→Below w.heap.size w w'→F i v w')
  (hop:∀ p∈D,∀ xs w,Below w0.heap.size w0 w→(∀ q∈D,Region.waitsFor md ops p.1 q.1=true→F q.1 (xs q.1) w) →
   wpOp P ops Q p.1 (fun a' w'=>∃ v,a'=(aP a0 xs D).put (some p.2) v∧Below w.heap.size w w'∧F p.1 v w') (aP a0 xs D) w)
  (hfin:∀ xs w,Below w0.heap.size w0 w→(∀ p∈D,F p.1 (xs p.1) w)→Early P md ops Q (fun _=>True) 0 f0 (iB base D) (aP a0 xs D) w) :
  ∀ (m:Nat) (listed:Array Bool) (a:Act) (w:World),jK listed D=m→aBq md ops base D F a0 w0 listed a w→Early P md ops Q (fun _=>True) 0 (f0+m) listed a w:=by
 unfold AO at hB;simp only[aFs,aIh] at hB
 obtain⟨⟨⟨⟨hT,hL⟩,hD⟩,-⟩,hbs⟩:=hB;have hbase:∀ p∈D,base.getD p.1 false=false:=fun p hp=>by
  have:=aEx.1 hD p hp;simp only[aFs,aLm] at this
  exact this.1
 intro m
 induction m with
 | zero=>
  intro listed a w hm hw;obtain⟨⟨xs,rfl,x1⟩,hb,ho,hs,hc⟩:=hw;have hall:∀ p∈D,listed.getD p.1 false=true:=fun p hp=>by
   have h0:=aNp.1 hm p hp
   simpa using h0
  rw[WP hall ho (hs.trans hbs.symm)];exact hfin xs w hb fun p hp=>x1 p hp (hall p hp)
 | succ m ih=>
  intro listed a w hm hw;obtain⟨⟨xs,rfl,x1⟩,hb,ho,hs,hc⟩:=hw;have hex:∃ p∈D,listed.getD p.1 false=false:=by
   have h0:0<jK listed D:=by omega
   obtain⟨p,hp,h⟩:=aNo.1 h0;exact⟨p,hp,by simpa using h⟩
  have size_of:∀ {p:Nat × Tmp},p∈D→p.1<listed.size:=fun {p} hp=>by
   obtain⟨o,ho',-⟩:=gN hT p hp;obtain⟨h,-⟩:=aFx.1 ho';rw[hs];exact h
  have inB:∀ {j:Nat},base.getD j false=true→listed.getD j false=true:=fun {j} hj=>by
   rw[ho j fun p hp e=>by rw[← e,hbase p hp] at hj;cases hj];exact hj
  have hz:∀ (n:Nat) (p:Nat × Tmp),p∈D→listed.getD p.1 false=false→ops.size≤p.1+n→listed.getD z false=false:=by
   intro n
   induction n with
   | zero=>intro p hp _ hn;have:=size_of hp;rw[hs] at this;omega
   | succ n ihn=>
    intro p hp hu hn;have h:=aEx.1 hD p hp;simp only[aFs,Bool.or_eq_true,aIh,aJr,aHc] at h
    rcases h.2 with e | ⟨q,hq,hlt,hw⟩
    ·rw[← e];exact hu
    ·refine ihn q hq ?_ (by omega);cases hql:listed.getD q.1 false with
     | false=>rfl
     | true=>
      obtain⟨oj,hoj,e,he,hbd,hon⟩:=aHs hw;have:=hc q.1 oj hoj hql e he hbd;rw[hon,hu] at this;cases this
  have hzu:listed.getD z false=false:=by
   obtain⟨p,hp,hu⟩:=hex;exact hz ops.size p hp hu (by omega)
  show(Region.ready md ops listed=[]→Q .normal _ w)∧_
  refine⟨fun h0=>?_,fun i hi=>?_⟩
  ·obtain⟨p,hp,hu,o,ho1,hall⟩:=jR (seen:=JM base ops.size) hT (fun s hs'=>inB (by unfold JM at hs';exact(List.mem_filter.1 hs').2)) hex;have hr:p.1∈Region.ready md ops listed:=aJe.2 ⟨by have:=size_of hp;simp[this] at hu ⊢;exact hu,o,ho1,hall⟩;rw[h0] at hr;cases hr
  ·obtain⟨hjun,oj,hoj,hall⟩:=aJe.1 hi;have hjun':=gR hjun;have hDi:∃ p∈D,p.1=i:=by
    obtain⟨hjs,-⟩:=aFx.1 hoj;have h5:=aEx.1 hL i (aKt.2 hjs);rw[hoj] at h5;simp only[Bool.or_eq_true,aJr,aIh] at h5
    rcases h5 with (h5 | h5) | h5
    ·rw[inB h5] at hjun';cases hjun'
    ·exact h5
    ·obtain⟨k,hk,hke⟩:=Array.any_eq_true.1 h5;simp only[aFs,Bool.or_eq_true,aIh,aLm,List.any_eq_false] at hke
     have hl:=hall _ (Array.getElem_mem hk) hke.1;rcases hke.2 with e | ⟨e1,e2⟩
     ·rw[e,hzu] at hl;cases hl
     ·rw[ho _ (fun p hp e=>by have:=e2 p hp;simp[e] at this),e1] at hl;cases hl
   obtain⟨p,hp,rfl⟩:=hDi;have deps:∀ q∈D,Region.waitsFor md ops p.1 q.1=true→F q.1 (xs q.1) w:=fun q hq hwt=>by
    obtain⟨oj',hoj',e,he,hbd,hon⟩:=aHs hwt;rw[hoj] at hoj';injection hoj' with hoj';subst hoj'
    exact x1 q hq (hon▸hall e he hbd)
   refine aMb (fun a' w' h=>?_) (hop p hp xs w hb deps);obtain⟨v,rfl,hbw,hf⟩:=h;refine⟨fun h=>absurd h (aNl _),ih _ _ _ ?_ ⟨⟨XX xs p.1 v,pU h1 h2 hp,fun q hq hl=>?_⟩,hb.trans (hbw.mono hb.size),fun j hj=>?_,by simpa using hs,hc.set hi⟩⟩
   ·have:=jD (size_of hp) hjun' h1 ⟨p,hp,rfl⟩
    omega
   ·by_cases e:q.1=p.1
    ·rw[e,jN];exact hf
    ·rw[kP e];rw[getD_set_ne false (fun h=>e h.symm)] at hl;exact hF _ _ _ _ (x1 q hq hl) hbw
   ·rw[getD_set_ne false (fun e=>hj p hp e)];exact ho j hj
def JU (md:Region.Mode) (ops:Array Oper) (base:Array Bool) (D:List (Nat × Tmp)) (z:Nat):Bool:=
 decide (D.map (·.1)).Nodup&&decide (D.map (·.2)).Nodup&&AO md ops base D z
theorem Chunk.run {a0:Act} (L:List yE) (z:Nat) (base base':Array Bool) (f0:Nat) {f:Nat} (hC:JU .any ops base (bO L) z=true) (hf:f=f0+L.length) (hb':iB base (bO L)=base')
  (hF:∀ o∈L,∀ v w w',o.F v w→Below w.heap.size w w'→o.F v w')
  (hop:∀ o∈L,∀ xs w',Below w.heap.size w w'→(∀ q∈L,Region.waitsFor .any ops o.i q.i=true→q.F (xs q.i) w') →
   wpOp P ops Q o.i (fun a' w''=>∃ v,a'=(aP a0 xs (bO L)).put (some o.d) v∧Below w'.heap.size w' w''∧o.F v w''∧(([]:List Nat).contains o.i=true→eT w' w'' v)) (aP a0 xs (bO L)) w')
  (hfin:∀ xs w',Below w.heap.size w w'→(∀ o∈L,o.F (xs o.i) w')→Early P .any ops Q (fun _=>True) 0 f0 base' (aP a0 xs (bO L)) w') :
  Early P .any ops Q (fun _=>True) 0 f base a0 w:=by
 unfold JU at hC;simp only[aFs] at hC
 obtain⟨⟨h1,h2⟩,hB⟩:=hC;replace h1:=aGw h1;replace h2:=aGw h2;have hB':=hB;unfold AO at hB';simp only[aFs,aIh] at hB'
 obtain⟨⟨⟨-,hD⟩,hcl⟩,hbs⟩:=hB';have inD:∀ p∈bO L,∃ o∈L,p=(o.i,o.d):=fun p hp=>by
  obtain⟨o,ho,rfl⟩:=aFc.1 hp;exact⟨o,ho,rfl⟩
 have toD:∀ o∈L,(o.i,o.d)∈bO L:=fun o ho=>aFc.2 ⟨o,ho,rfl⟩
 have one:∀ {o:yE},o∈L→∀ {v w},o.F v w→∀ q∈L,q.i=o.i→q.F v w:=fun {o} ho {v w} h q hq e=>by
  obtain rfl:=uJ h1 hq ho e;exact h
 have hbase:∀ p∈bO L,base.getD p.1 false=false:=fun p hp=>by
  have:=aEx.1 hD p hp;simp only[aFs,aLm] at this
  exact this.1
 obtain⟨xs,hxs⟩:=qW (fun t=>a0.tmps.getD t undef) h1;subst hf;refine TM (f0:=f0) (F:=fun i v w=>∀ o∈L,o.i=i→o.F v w) h1 h2 hB (fun i v w w' h hb o ho e=>hF o ho v w w' (h o ho e) hb) (fun p hp xs w' hb hd=>?_) (fun xs w' hb k=>?_) L.length base a0 w ?_ ⟨⟨xs,(iZ hxs).symm,fun p hp h=>by rw[hbase p hp] at h;cases h⟩,aDy _ _,fun _ _=>rfl,hbs,zO hcl⟩
 ·obtain⟨o,ho,rfl⟩:=inD p hp;refine aMb (fun a' w'' h=>?_) (hop o ho xs w' hb fun q hq hw=>hd (q.i,q.d) (toD q hq) hw q hq rfl);obtain⟨v,e,hbw,hf,-⟩:=h;exact⟨v,e,hbw,one ho hf⟩
 ·rw[hb'];exact hfin xs w' hb fun o ho=>k (o.i,o.d) (toD o ho) o ho rfl
 ·unfold jK;rw[show L.length=(bO L).length by simp[bO],List.countP_eq_length];intro p hp;rw[hbase p hp];rfl
theorem Chunk.start {a0:Act} (hm:P.follows .mixedOrders=true) (h:∀ w1,Below w.heap.size w w1→Early P .any ops Q (fun _=>True) 0 ops.size (Array.replicate ops.size false) a0 w1):(Code.region id ops true).wp P Q a0 w:=
 aIr 0 (fun _=>True) hm (h _ (let r:=aDy w.drew.heap.size w.drew;⟨r.os,r.tape,r.output,r.size,r.block⟩))
end
structure SOp where
 i:Nat
 d:Tmp
 deps:List Nat
 s:Value ⊕ (Value→World→Prop)
def SOp.F (o:SOp):Value→World→Prop:=match o.s with
 | .inl v=>fun x _=>x=v
 | .inr F=>F
def SOp.val (o:SOp) (xs:Nat→Value):Value:=match o.s with
 | .inl v=>v
 | .inr _=>xs o.i
@[reducible] def se (i:Nat) (d:Tmp) (deps:List Nat) (v:Value):SOp:=⟨i,d,deps,.inl v⟩
@[reducible] def sf (i:Nat) (d:Tmp) (deps:List Nat) (F:Value→World→Prop):SOp:=⟨i,d,deps,.inr F⟩
def SOp.op (o:SOp):yE:=⟨o.i,o.d,o.F⟩
def look:List SOp→Nat→Value→World→Prop
 | [],_=>fun _ _=>True
 | o :: L,j=>if o.i=j then o.F else look L j
def mQ (L:List SOp) (xs:Nat→Value) (w:World):List Nat→Prop→Prop
 | [],G=>G
 | j :: js,G=>look L j (xs j) w→mQ L xs w js G
def sD (b:Nat):Nat→List Value→List (Addr × Value)
 | _,[]=>[]
 | i,v :: l=>(⟨b,i,none⟩,v) :: sD b (i+1) l
def gJ (w:World):List (Addr × Value)→Prop→Prop
 | [],G=>G
 | p :: S,G=>w.cell? p.1=some p.2→gJ w S G
def uS (xs:Nat→Value) (w:World):List SOp→Prop→Prop
 | [],G=>G
 | ⟨_,_,_,.inl _⟩ :: L,G=>uS xs w L G
 | ⟨i,_,_,.inr F⟩ :: L,G=>F (xs i) w→uS xs w L G
def uT:List SOp→(SOp→Prop)→Prop
 | [],_=>True
 | [o],G=>G o
 | o :: p :: L,G=>G o∧uT (p :: L) G
theorem nD {G:SOp→Prop}:∀ {L:List SOp},uT L G→∀ o∈L,G o
 | [],_=>fun _ h=>by cases h
 | [_],h=>fun q hq=>by rcases aHp.1 hq with rfl | hq;exact h;cases hq
 | _ :: p :: L,h=>fun q hq=>by rcases aHp.1 hq with rfl | hq;exact h.1;exact nD (L:=p :: L) h.2 q hq
theorem OY {G:SOp→Prop}:∀ {L:List SOp},(∀ o∈L,G o)→uT L G
 | [],_=>aFi
 | [_],h=>h _ (aFh ..)
 | _ :: _ :: _,h=>⟨h _ (aFh ..),OY fun q hq=>h q (aFo _ hq)⟩
def mR (B:World):List SOp→Prop
 | []=>True
 | ⟨_,_,_,.inl _⟩ :: L=>mR B L
 | ⟨_,_,_,.inr F⟩ :: L=>(∀ v w w',F v w→Below w.heap.size w w'→F v w')∧mR B L
def uQ (a:Act) (xs:Nat→Value):List SOp→Act
 | []=>a
 | o :: L=>(uQ a xs L).put (some o.d) (o.val xs)
def dV:List SOp→List (Nat × Tmp)
 | []=>[]
 | o :: L=>(o.i,o.d) :: dV L
theorem lF:∀ L:List SOp,dV L=bO (L.map SOp.op)
 | []=>rfl
 | o :: L=>by show(o.i,o.d) :: dV L=_;rw[lF L];rfl
theorem BC:∀ {L:List SOp},(∀ o∈L,o.F (xs o.i) w)→aP a xs (dV L)=uQ a xs L
 | [],_=>rfl
 | o :: L,h=>by
  show(aP a xs (dV L)).put (some o.d) (xs o.i)=(uQ a xs L).put (some o.d) (o.val xs)
  rw[BC fun q hq=>h q (aFo _ hq),show o.val xs=xs o.i from ?_];have h1:=h o (aFh ..)
  revert h1
  unfold SOp.F SOp.val;cases o.s with
  | inl v=>exact fun e=>e.symm
  | inr F=>exact fun _=>rfl
def AI (ops:Array Oper) (L:List SOp):Bool:=L.all fun o=>o.deps.all fun j=>L.any (fun q=>q.i==j)&&Region.waitsFor .any ops o.i j
theorem SX:(∀ (xs:Nat→Value) (w:World) (L:List SOp) (G:Prop),mQ L xs w [] G=G)∧(∀ (xs:Nat→Value) (w:World) (L:List SOp) (j:Nat) (js:List Nat) (G:Prop),mQ L xs w (j :: js) G=(look L j (xs j) w→mQ L xs w js G)) ∧
  (∀ (o:SOp) (L:List SOp) (j:Nat),look (o :: L) j=if o.i=j then o.F else look L j)∧(∀ i d dp v,SOp.F ⟨i,d,dp,.inl v⟩=fun x _=>x=v)∧(∀ i d dp F,SOp.F ⟨i,d,dp,.inr F⟩=F)∧(∀ (o:SOp) (l m:List SOp),(o :: l)++m=o :: (l++m))∧(∀ l:List SOp,[]++l=l) ∧
  (∀ (w:World) (G:Prop),gJ w [] G=G)∧(∀ (w:World) (a:Addr) (v:Value) (S:List (Addr × Value)) (G:Prop),gJ w ((a,v) :: S) G=(w.cell? a=some v→gJ w S G))∧(∀ (w:World) (b i:Nat) (S:List (Addr × Value)) (G:Prop),gJ w (sD b i []++S) G=gJ w S G) ∧
  (∀ (w:World) (b i:Nat) (v:Value) (l:List Value) (S:List (Addr × Value)) (G:Prop),gJ w (sD b i (v :: l)++S) G=(w.cell? ⟨b,i,none⟩=some v→gJ w (sD b (i+1) l++S) G))∧(∀ l:List Value,l.toArray.toList=l) ∧
  (∀ o L,dV (o :: L)=(o.i,o.d) :: dV L)∧dV []=[]∧(∀ (a:Act) (xs:Nat→Value),aP a xs []=a)∧(∀ (a:Act) (xs:Nat→Value) (p:Nat × Tmp) (D:List (Nat × Tmp)),aP a xs (p :: D)=(aP a xs D).put (some p.2) (xs p.1)) ∧
  (∀ (t:Array Value) (ds:List Deferred) (d:Tmp) (v:Value),Act.put ⟨t,ds⟩ (some d) v=⟨t.setIfInBounds d v,ds⟩)∧(∀ (l:List Value) (i:Nat) (v:Value),l.toArray.setIfInBounds i v=(l.set i v).toArray) ∧
  (∀ (a b:Value) (l:List Value),(a :: l).set 0 b=b :: l)∧(∀ (a b:Value) (l:List Value) (n:Nat),(a :: l).set (n+1) b=a :: l.set n b) ∧
  (∀ G:SOp→Prop,uT [] G=True)∧(∀ (o:SOp) (G:SOp→Prop),uT [o] G=G o)∧(∀ (o p:SOp) (L:List SOp) (G:SOp→Prop),uT (o :: p :: L) G=(G o∧uT (p :: L) G)):=
 ⟨fun _ _ _ _=>rfl,fun _ _ _ _ _ _=>rfl,fun _ _ _=>rfl,fun _ _ _ _=>rfl,fun _ _ _ _=>rfl,fun _ _ _=>rfl,fun _=>rfl,fun _ _=>rfl,fun _ _ _ _ _=>rfl,fun _ _ _ _ _=>rfl,fun _ _ _ _ _ _ _=>rfl,fun _=>rfl,fun _ _=>rfl,rfl,fun _ _=>rfl,fun _ _ _ _=>rfl,fun _ _ _ _=>rfl,fun _ _ _=>aJa ..,fun _ _ _=>rfl,fun _ _ _ _=>rfl,fun _=>rfl,fun _ _=>rfl,fun _ _ _ _=>rfl⟩
theorem SY:(∀ (xs:Nat→Value) (w:World) (G:Prop),uS xs w [] G=G)∧(∀ (xs:Nat→Value) (w:World) i d dp v (L:List SOp) (G:Prop),uS xs w (⟨i,d,dp,.inl v⟩ :: L) G=uS xs w L G)∧(∀ (xs:Nat→Value) (w:World) i d dp F (L:List SOp) (G:Prop),uS xs w (⟨i,d,dp,.inr F⟩ :: L) G=(F (xs i) w→uS xs w L G)) ∧
  (∀ (a:Act) (xs:Nat→Value),uQ a xs []=a)∧(∀ (a:Act) (xs:Nat→Value) i d dp v L,uQ a xs (⟨i,d,dp,.inl v⟩ :: L)=(uQ a xs L).put (some d) v)∧(∀ (a:Act) (xs:Nat→Value) i d dp F L,uQ a xs (⟨i,d,dp,.inr F⟩ :: L)=(uQ a xs L).put (some d) (xs i)) ∧
  (∀ (o:SOp) (l m:List SOp),(o :: l)++m=o :: (l++m))∧(∀ l:List SOp,[]++l=l)∧(∀ (t:Array Value) (ds:List Deferred) (d:Tmp) (v:Value),Act.put ⟨t,ds⟩ (some d) v=⟨t.setIfInBounds d v,ds⟩)∧(∀ (l:List Value) (i:Nat) (v:Value),l.toArray.setIfInBounds i v=(l.set i v).toArray) ∧
  (∀ (a b:Value) (l:List Value),(a :: l).set 0 b=b :: l)∧(∀ (a b:Value) (l:List Value) (n:Nat),(a :: l).set (n+1) b=a :: l.set n b)∧(∀ o L,dV (o :: L)=(o.i,o.d) :: dV L)∧dV []=[]:=
 ⟨fun _ _ _=>rfl,fun _ _ _ _ _ _ _ _=>rfl,fun _ _ _ _ _ _ _ _=>rfl,fun _ _=>rfl,fun _ _ _ _ _ _ _=>rfl,fun _ _ _ _ _ _ _=>rfl,fun _ _ _=>rfl,fun _=>rfl,fun _ _ _ _=>rfl,fun _ _ _=>aJa ..,fun _ _ _=>rfl,fun _ _ _ _=>rfl,fun _ _=>rfl,rfl⟩
theorem SM:(∀ B,mR B []=True)∧(∀ B i d dp v L,mR B (⟨i,d,dp,.inl v⟩ :: L)=mR B L)∧(∀ B i d dp F L,mR B (⟨i,d,dp,.inr F⟩ :: L)=((∀ v w w',F v w→Below w.heap.size w w'→F v w')∧mR B L))∧(∀ (o:SOp) (l m:List SOp),(o :: l)++m=o :: (l++m))∧(∀ l:List SOp,[]++l=l):=
 ⟨fun _=>rfl,fun _ _ _ _ _ _=>rfl,fun _ _ _ _ _ _=>rfl,fun _ _ _=>rfl,fun _=>rfl⟩
theorem WG {L:List SOp} (h:(L.any fun q=>q.i==j)=true):∃ q∈L,q.i=j∧look L j=q.F:=by
 induction L with
 | nil=>cases h
 | cons o L ih=>
  by_cases e:o.i=j
  ·exact⟨o,aFh ..,e,aEv e⟩
  ·rw[List.any_cons,beq_false_of_ne e,Bool.false_or] at h;obtain⟨q,hq,e1,e2⟩:=ih h;exact⟨q,aFo _ hq,e1,by rw[look,aEu e,e2]⟩
theorem oJ {L:List SOp}:∀ {js:List Nat},(∀ j∈js,look L j (xs j) w)→mQ L xs w js G→G
 | [],_,h=>h
 | j :: _,hj,h=>oJ (fun k hk=>hj k (aFo _ hk)) (h (hj j (aFh ..)))
theorem uP:∀ {L:List SOp},(∀ o∈L,o.F (xs o.i) w)→uS xs w L G→G
 | [],_,h=>h
 | ⟨_,_,_,.inl _⟩ :: _,hp,h=>uP (fun q hq=>hp q (aFo _ hq)) h
 | ⟨_,_,_,.inr _⟩ :: _,hp,h=>uP (fun q hq=>hp q (aFo _ hq)) (h (hp _ (aFh ..)))
theorem MA {q:Prop} (h:p) (k:q):p∧q:=⟨h,k⟩
theorem ac {α:Type} {P:α→Prop} {a:α} {l:List α} (h:P a) (hl:∀ o∈l,P o):∀ o∈a :: l,P o:=aI h hl
theorem rE {B:World}:∀ {L:List SOp},mR B L→∀ o∈L,∀ v w w',o.F v w→Below w.heap.size w w'→o.F v w'
 | [],_=>aD
 | ⟨_,_,_,.inl _⟩ :: _,h=>ac (fun _ _ _ e _=>e) (rE (B:=B) h)
 | ⟨_,_,_,.inr _⟩ :: _,h=>ac h.1 (rE (B:=B) h.2)
theorem tD:∀ {S:List (Addr × Value)},(∀ p∈S,w.cell? p.1=some p.2)→gJ w S G→G
 | [],_,h=>h
 | p :: _,hp,h=>tD (fun q hq=>hp q (aFo _ hq)) (h (hp p (aFh ..)))
theorem wJ {L:List SOp} {H:Prop} (k:G→H):∀ {js:List Nat},mQ L xs w js G→mQ L xs w js H
 | [],h=>k h
 | _ :: _,h=>fun q=>wJ k (h q)
theorem tW {H:Prop} (k:G→H):∀ {S:List (Addr × Value)},gJ w S G→gJ w S H
 | [],h=>k h
 | _ :: _,h=>fun q=>tW k (h q)
def AF (w:World) (S:List (Addr × Value)):Prop:=∀ w',Below w.heap.size w w'→∀ p∈S,w'.cell? p.1=some p.2
theorem S0:AF w []:=fun _ _=>aD
theorem SC {a:Addr} {S:List (Addr × Value)} (h:∀ w',Below w.heap.size w w'→w'.cell? a=some v) (k:AF w S):AF w ((a,v) :: S):=fun w' hb=>ac (h w' hb) (k w' hb)
theorem zQ:∀ {l:List Value} {i:Nat},(∀ j (h:j<l.length),w.cell? ⟨b,i+j,none⟩=some l[j])→∀ p∈sD b i l,w.cell? p.1=some p.2
 | [],_,_=>aD
 | v :: l,i,h=>ac (h 0 (Nat.zero_lt_succ _)) (zQ (i:=i+1) fun j hj=>by have:=h (j+1) (Nat.succ_lt_succ hj);rwa [show i+(j+1)=i+1+j by omega] at this)
theorem SB {S:List (Addr × Value)} (h:CB w b t cs) (k:AF w S):AF w (sD b 0 cs.toList++S):=fun w' hb p hp=>by
 rcases aGb.1 hp with h1 | h1
 ·exact zQ (fun j hj=>by rw[aIx];exact(h.step hb).cell j (by simp at hj ⊢)) p h1
 ·exact k w' hb p h1
section
variable {P:Program} {ops:Array Oper} {Q:Exit→Act→World→Prop}
theorem pQ {L:List SOp} (hC:AI ops L=true) {o:SOp} (ho:o∈L) (hd:∀ q∈L.map SOp.op,Region.waitsFor .any ops o.i q.i=true→q.F (xs q.i) w):∀ j∈o.deps,look L j (xs j) w:=fun j hj=>by
 have h:=aEx.1 (aEx.1 hC o ho) j hj;obtain⟨h1,h2⟩:=aFg.1 h;obtain⟨q,hq,e1,e2⟩:=WG h1;rw[e2,← e1];exact hd q.op (aHx hq) (by rw[show q.op.i=j from e1];exact h2)
theorem Sweep.run {a0:Act} (L1 L2:List SOp) (N:List Nat) (f0:Nat) {S:List (Addr × Value)} (hS:AF w S)
  (hF:mR w (L1++L2))
  (hop:∀ xs A,A=aP a0 xs (dV (L1++L2))→uT L1 fun o=>∀ w',Hi (Below w.heap.size w w')→w.heap.size≤w'.heap.size→mQ (L1++L2) xs w' o.deps (gJ w' S
   (wpOp P ops Q o.i (fun a' w''=>∃ v,a'=A.put (some o.d) v∧Below w'.heap.size w' w''∧o.F v w''∧(N.contains o.i=true→eT w' w'' v)) A w')))
  (hopt:∀ xs A,A=aP a0 xs (dV (L1++L2))→uT L2 fun o=>∀ w',Hi (Below w.heap.size w w')→w.heap.size≤w'.heap.size→mQ (L1++L2) xs w' o.deps (∃ op v,ops[o.i]?=some op∧Yields P ops op v A∧o.F v w'))
  (hfin:∀ xs w',Hi (Below w.heap.size w w')→w.heap.size≤w'.heap.size→(∀ i∈N,eT w w' (xs i))→(∀ i∈N,∀ j∈N,i≠j→xs i≠xs j) →
   uS xs w' (L1++L2) (Early P .any ops Q (fun _=>True) 0 f0 (kU ops (dV (L1++L2))) (uQ a0 xs (L1++L2)) w'))
  (hm:P.follows .mixedOrders=true:=by kernel_rfl) (hC:NA .any ops (dV (L1++L2)) (L1.map (·.i)) N f0=true:=by kernel_rfl) (hD:AI ops (L1++L2)=true:=by kernel_rfl) (hNo:(L2.all fun o=>!N.contains o.i)=true:=by kernel_rfl)
  (hQ:∀ c a (d:Tmp) v w,Q (.panic c) (a.put (some d) v) w→Q (.panic c) a w:=by exact fun _ _ _ _ _ h=>h) :
  (Code.region id ops true).wp P Q a0 w:=by
 have ea:L1.map SOp.op++L2.map SOp.op=(L1++L2).map SOp.op:=(aGc ..).symm;rw[lF] at hC hop hopt;have em:(L1.map SOp.op).map (·.i)=L1.map (·.i):=by rw[List.map_map];rfl
 refine Flow.run (L1.map SOp.op) (L2.map SOp.op) N f0 hm (by rw[ea,em];exact hC) (by rw[List.all_map];exact hNo) hQ ?_ ?_ ?_ ?_
 ·rw[ea];intro o ho;obtain⟨q,hq,rfl⟩:=aFc.1 ho;exact rE hF q hq
 ·rw[ea];intro o ho xs w' hb hd;obtain⟨q,hq,rfl⟩:=aFc.1 ho;exact tD (hS w' hb) (oJ (pQ hD (aKg _ hq) hd) (nD (hop xs _ rfl) q hq w' (zz hb) hb.size))
 ·rw[ea];intro o ho xs w' hb hd;obtain⟨q,hq,rfl⟩:=aFc.1 ho;exact oJ (pQ hD (aLh _ hq) hd) (nD (hopt xs _ rfl) q hq w' (zz hb) hb.size)
 ·rw[ea];intro xs w' hb k1 k2 k3;have k4:∀ o∈L1++L2,o.F (xs o.i) w':=fun o ho=>k1 o.op (aHx ho)
  rw[← lF,BC k4];exact uP k4 (hfin xs w' (zz hb) hb.size k2 k3)
abbrev aMe:=@Sweep.run
theorem Sweep.r0 {a0:Act} (L:List SOp) (f0:Nat) {S:List (Addr × Value)} (hS:AF w S)
  (hF:mR w L)
  (hop:∀ xs A,A=aP a0 xs (dV L)→uT L fun o=>∀ w',Hi (Below w.heap.size w w')→w.heap.size≤w'.heap.size→mQ L xs w' o.deps (gJ w' S
   (wpOp P ops Q o.i (fun a' w''=>∃ v,a'=A.put (some o.d) v∧Below w'.heap.size w' w''∧o.F v w'') A w')))
  (hfin:∀ xs w',Hi (Below w.heap.size w w')→w.heap.size≤w'.heap.size→uS xs w' L (Early P .any ops Q (fun _=>True) 0 f0 (kU ops (dV L)) (uQ a0 xs L) w'))
  (hm:P.follows .mixedOrders=true:=by kernel_rfl) (hC:NA .any ops (dV L) (L.map (·.i)) [] f0=true:=by kernel_rfl) (hD:AI ops L=true:=by kernel_rfl)
  (hQ:∀ c a (d:Tmp) v w,Q (.panic c) (a.put (some d) v) w→Q (.panic c) a w:=by exact fun _ _ _ _ _ h=>h) :
  (Code.region id ops true).wp P Q a0 w:=by
 have e:L++[]=L:=aId L;refine aMe L [] [] f0 hS (by rw[e];exact hF) ?_ (fun _ _ _=>aFi) ?_ hm (by rw[e];exact hC) (by rw[e];exact hD) rfl hQ
 ·rw[e];intro xs A hA;refine OY fun o ho w' hb hz=>?_
  have h:=nD (hop xs A hA) o ho w' hb hz;exact wJ (fun h=>tW (fun h=>aMb (fun a w'' ⟨v,k1,k2,k3⟩=>⟨v,k1,k2,k3,nF⟩) h) h) h
 ·rw[e];exact fun xs w' hb hz _ _=>hfin xs w' hb hz
abbrev aFq:=@Sweep.r0
theorem ChunkS.run {a0:Act} (L:List SOp) (z:Nat) (base base':Array Bool) (f0:Nat) {f:Nat} {S:List (Addr × Value)} (hS:AF w S)
  (hF:mR w L)
  (hop:∀ xs A,A=aP a0 xs (dV L)→uT L fun o=>∀ w',Hi (Below w.heap.size w w')→w.heap.size≤w'.heap.size→mQ L xs w' o.deps (gJ w' S
   (wpOp P ops Q o.i (fun a' w''=>∃ v,a'=A.put (some o.d) v∧Below w'.heap.size w' w''∧o.F v w'') A w')))
  (hfin:∀ xs w',Hi (Below w.heap.size w w')→w.heap.size≤w'.heap.size→uS xs w' L (Early P .any ops Q (fun _=>True) 0 f0 base' (uQ a0 xs L) w'))
  (hC:JU .any ops base (dV L) z=true:=by kernel_rfl) (hD:AI ops L=true:=by kernel_rfl) (hf:f=f0+L.length:=by rfl) (hb':iB base (dV L)=base':=by kernel_rfl) :
  Early P .any ops Q (fun _=>True) 0 f base a0 w:=by
 rw[lF] at hC hb' hop;refine Chunk.run (L.map SOp.op) z base base' f0 hC (by rw[aEb];exact hf) hb' ?_ ?_ ?_
 ·intro o ho;obtain⟨q,hq,rfl⟩:=aFc.1 ho;exact rE hF q hq
 ·intro o ho xs w' hb hd;obtain⟨q,hq,rfl⟩:=aFc.1 ho;exact aMb (fun a w'' ⟨v,k1,k2,k3⟩=>⟨v,k1,k2,k3,nF⟩) (tD (hS w' hb) (oJ (pQ hD hq hd) (nD (hop xs _ rfl) q hq w' (zz hb) hb.size)))
 ·intro xs w' hb k1;have k4:∀ o∈L,o.F (xs o.i) w':=fun o ho=>k1 o.op (aHx ho)
  rw[← lF,BC k4];exact uP k4 (hfin xs w' (zz hb) hb.size)
theorem pl (h:p:=by(intros;refine aDz rfl ?_;intro K hK;go_simp;refine hK _ _ ⟨_,?_,aDy _ _,rfl⟩;simp only[*,FL] <;> kernel_rfl)):p:=h
theorem pn (h:p:=by(intros;refine aDz rfl ?_;intro K hK;go_simp;refine hK _ _ ⟨_,?_,aDy _ _,rfl,nF⟩;simp only[*,FL] <;> kernel_rfl)):p:=h
theorem wo {o:Oper} {K:Act→World→Prop}
  (h:∀ K':Act→World→Prop,(∀ a w,K a w→K' a w)→if Region.wanted o (yielded ops a.tmps)=true then Oper.wp P o a w K' Q else K' (a.put o.dst undef) w) (ho:ops[i]?=some o:=by rfl):wpOp P ops Q i K a w:=aDz ho h
theorem en {md:Region.Mode} {S:World→Prop} {t:Nat} (i:Nat) {o:Oper} {f:Nat} {listed:Array Bool} {a:Act} {w:World} (ho:ops[i]?=some o)
  (h:∀ K:Act→World→Prop,(∀ a w,(i<t→S w)→Early P md ops Q S t f (listed.setIfInBounds i true) a w→K a w)→if Region.wanted o (yielded ops a.tmps)=true then Oper.wp P o a w K Q else K (a.put o.dst undef) w) (hr:Region.ready md ops listed=[i]:=by kernel_rfl) :
  Early P md ops Q S t (f+1) listed a w:=aEq hr ho h
theorem EN {md:Region.Mode} {t:Nat} {o:Oper} {listed:Array Bool} (i:Nat) (ho:ops[i]?=some o)
  (h:∀ K:Act→World→Prop,(∀ a w,Early P md ops Q (fun _=>True) t f (listed.setIfInBounds i true) a w→K a w)→if Region.wanted o (yielded ops a.tmps)=true then Oper.wp P o a w K Q else K (a.put o.dst undef) w) (hr:Region.ready md ops listed=[i]:=by kernel_rfl) :
  Early P md ops Q (fun _=>True) t (f+1) listed a w:=aEq hr ho fun K hK=>h K fun a w=>hK a w fun _=>aFi
theorem ED {md:Region.Mode} {t:Nat} {listed:Array Bool} (h:Q .normal a w) (hr:Region.ready md ops listed=[]:=by kernel_rfl):Early P md ops Q (fun _=>True) t f listed a w:=aIj hr h f
end
end Go.Proofs.YtencnahjgbdeoaaGreatDoor
