/- The values of layer 04: whole numbers with a sign apart, ratios, fractions. -/
import Derived.Test.YtngpibfakemmhaaGreatDoorQRat
import Derived.Test.YtngpibfakemmhaaGreatDoorPutL
namespace Go.Proofs.YtngpibfakemmhaaGreatDoor
open Go Go.RowKit Dig
def WV (w:World) (B:Nat) (v:Value) (z:Int):Prop:=∃ n A l c,v=.agg #[.bool n,.slice A l c]∧RN w B (.slice A l c) (dig z.natAbs)∧(z≠0→n=decide (z<0))
def TV (w:World) (B:Nat) (v:Value) (z:Int) (d:Nat):Prop:=∃ n A l c A' l' c',v=.agg #[.bool n,.slice A l c,.slice A' l' c']∧RN w B (.slice A l c) (dig z.natAbs)∧RN w B (.slice A' l' c') (dig d)∧(z≠0→n=decide (z<0))
def QV (w:World) (B:Nat) (v:Value) (q:Rat):Prop:=∃ n A l c A' l' c',v=.agg #[.bool n,.slice A l c,.bool false,.slice A' l' c']∧RN w B (.slice A l c) (dig q.num.natAbs)∧RN w B (.slice A' l' c') (dig q.den)∧n=decide (q.num<0)
def QR (w:World) (B:Nat) (v:Value) (n:Bool) (a:List Int) (m:Bool) (b:List Int):Prop:=∃ A l c A' l' c',v=.agg #[.bool n,.slice A l c,.bool m,.slice A' l' c']∧RI w B (.slice A l c) a∧RI w B (.slice A' l' c') b
theorem RI.len {w:World} {B:Nat} {A:Option Addr} {n c:Nat} {l:List Int} (h:RI w B (.slice A n c) l):n=l.length:=by
  obtain⟨A',c',h,-⟩:=h;injection h
theorem RN.len {w:World} {B:Nat} {A:Option Addr} {n c:Nat} {l:List Nat} (h:RN w B (.slice A n c) l):n=l.length:=by
  have:=RI.len (show RI w B (.slice A n c) (ni l) from h);rw[this,ni_length]
section
variable {w w':World} {v:Value} {z:Int} {d:Nat} {q:Rat} {n m:Bool} {a b:List Int}
theorem WV.step (h:WV w w.heap.size v z) (hb:Below w.heap.size w w'):WV w' w'.heap.size v z:=by obtain⟨n,A,l,c,e,h1,h2⟩:=h;exact⟨n,A,l,c,e,h1.step hb,h2⟩
theorem TV.step (h:TV w w.heap.size v z d) (hb:Below w.heap.size w w'):TV w' w'.heap.size v z d:=by obtain⟨n,A,l,c,A',l',c',e,h1,h2,h3⟩:=h;exact⟨n,A,l,c,A',l',c',e,h1.step hb,h2.step hb,h3⟩
theorem QV.step (h:QV w w.heap.size v q) (hb:Below w.heap.size w w'):QV w' w'.heap.size v q:=by obtain⟨n,A,l,c,A',l',c',e,h1,h2,h3⟩:=h;exact⟨n,A,l,c,A',l',c',e,h1.step hb,h2.step hb,h3⟩
theorem QR.step (h:QR w w.heap.size v n a m b) (hb:Below w.heap.size w w'):QR w' w'.heap.size v n a m b:=by obtain⟨A,l,c,A',l',c',e,h1,h2⟩:=h;exact⟨A,l,c,A',l',c',e,h1.step hb,h2.step hb⟩
theorem WV.soft (h:WV w w.heap.size v z) (hs:Soft w w'):WV w' w'.heap.size v z:=by obtain⟨n,A,l,c,e,h1,h2⟩:=h;exact⟨n,A,l,c,e,RI.soft h1 hs,h2⟩
theorem TV.soft (h:TV w w.heap.size v z d) (hs:Soft w w'):TV w' w'.heap.size v z d:=by obtain⟨n,A,l,c,A',l',c',e,h1,h2,h3⟩:=h;exact⟨n,A,l,c,A',l',c',e,RI.soft h1 hs,RI.soft h2 hs,h3⟩
theorem QV.soft (h:QV w w.heap.size v q) (hs:Soft w w'):QV w' w'.heap.size v q:=by obtain⟨n,A,l,c,A',l',c',e,h1,h2,h3⟩:=h;exact⟨n,A,l,c,A',l',c',e,RI.soft h1 hs,RI.soft h2 hs,h3⟩
theorem QR.soft (h:QR w w.heap.size v n a m b) (hs:Soft w w'):QR w' w'.heap.size v n a m b:=by obtain⟨A,l,c,A',l',c',e,h1,h2⟩:=h;exact⟨A,l,c,A',l',c',e,h1.soft hs,h2.soft hs⟩
theorem RN.soft {l:List Nat} (h:RN w w.heap.size v l) (hs:Soft w w'):RN w' w'.heap.size v l:=RI.soft h hs
theorem QV.qr (h:QV w w.heap.size v q):QR w w.heap.size v (decide (q.num<0)) (ni (dig q.num.natAbs)) false (ni (dig q.den)):=by obtain⟨n,A,l,c,A',l',c',rfl,h1,h2,rfl⟩:=h;exact⟨A,l,c,A',l',c',rfl,h1,h2⟩
end
section
variable {w:World} {B:Nat} {n m:Bool} {A A':Option Addr} {l c l' c':Nat} {z:Int} {d:Nat} {q:Rat} {a b:List Int}
theorem WV.is (h:WV w B (.agg #[.bool n,.slice A l c]) z):RN w B (.slice A l c) (dig z.natAbs)∧(z≠0→n=decide (z<0)):=by
  obtain⟨n',A',l',c',e,h1,h2⟩:=h;injection e with e
  simp at e
  obtain⟨rfl,rfl,rfl,rfl⟩:=e;exact⟨h1,h2⟩
theorem WV.mk (h:RN w B (.slice A l c) (dig z.natAbs)) (hn:z≠0→n=decide (z<0)):WV w B (.agg #[.bool n,.slice A l c]) z:=⟨_,_,_,_,rfl,h,hn⟩
theorem TV.is (h:TV w B (.agg #[.bool n,.slice A l c,.slice A' l' c']) z d):RN w B (.slice A l c) (dig z.natAbs)∧RN w B (.slice A' l' c') (dig d)∧(z≠0→n=decide (z<0)):=by
  obtain⟨n1,A1,l1,c1,A2,l2,c2,e,h1,h2,h3⟩:=h;injection e with e
  simp at e
  obtain⟨rfl,⟨rfl,rfl,rfl⟩,rfl,rfl,rfl⟩:=e;exact⟨h1,h2,h3⟩
theorem TV.mk (h:RN w B (.slice A l c) (dig z.natAbs)) (h':RN w B (.slice A' l' c') (dig d)) (hn:z≠0→n=decide (z<0)):TV w B (.agg #[.bool n,.slice A l c,.slice A' l' c']) z d:=⟨_,_,_,_,_,_,_,rfl,h,h',hn⟩
theorem QV.is (h:QV w B (.agg #[.bool n,.slice A l c,.bool m,.slice A' l' c']) q):RN w B (.slice A l c) (dig q.num.natAbs)∧RN w B (.slice A' l' c') (dig q.den)∧n=decide (q.num<0)∧m=false:=by
  obtain⟨n1,A1,l1,c1,A2,l2,c2,e,h1,h2,h3⟩:=h;injection e with e
  simp at e
  obtain⟨rfl,⟨rfl,rfl,rfl⟩,rfl,rfl,rfl,rfl⟩:=e;exact⟨h1,h2,h3,rfl⟩
theorem QR.is (h:QR w B (.agg #[.bool n,.slice A l c,.bool m,.slice A' l' c']) n a m b):RI w B (.slice A l c) a∧RI w B (.slice A' l' c') b:=by
  obtain⟨A1,l1,c1,A2,l2,c2,e,h1,h2⟩:=h;injection e with e
  simp at e
  obtain⟨⟨rfl,rfl,rfl⟩,rfl,rfl,rfl⟩:=e;exact⟨h1,h2⟩
theorem QR.mk (h:RI w B (.slice A l c) a) (h':RI w B (.slice A' l' c') b):QR w B (.agg #[.bool n,.slice A l c,.bool m,.slice A' l' c']) n a m b:=⟨_,_,_,_,_,_,rfl,h,h'⟩
theorem QR.fst (h:QR w B (.agg #[.bool n,.slice A l c,.bool m,.slice A' l' c']) n a m b):LR w B (.agg #[.bool n,.slice A l c]) n a:=⟨_,rfl,h.is.1⟩
theorem QR.snd (h:QR w B (.agg #[.bool n,.slice A l c,.bool m,.slice A' l' c']) n a m b):LR w B (.agg #[.bool m,.slice A' l' c']) m b:=⟨_,rfl,h.is.2⟩
theorem QV.fst (h:QV w B (.agg #[.bool n,.slice A l c,.bool m,.slice A' l' c']) q):LV w B (.agg #[.bool n,.slice A l c]) q.num:=by
  obtain⟨h1,-,rfl,-⟩:=h.is;exact⟨_,rfl,h1⟩
theorem QV.snd (h:QV w B (.agg #[.bool n,.slice A l c,.bool m,.slice A' l' c']) q):LV w B (.agg #[.bool m,.slice A' l' c']) (q.den:Int):=by
  obtain⟨-,h1,-,rfl⟩:=h.is;exact⟨_,by rw[show decide ((q.den:Int)<0)=false from decide_eq_false (by omega)],by rw[Int.natAbs_natCast];exact h1⟩
end
noncomputable def qOf (n:Bool) (a:List Int) (m:Bool) (b:List Int):Option Rat:=
  match numOf n a,numOf m b with
  | some x,some y=>if 0<y∧Nat.gcd x.natAbs y.natAbs=1 then some (mkRat x y.natAbs) else none
  | _,_=>none
theorem mkRat_low {x:Int} {y:Nat} (hy:0<y) (h:Nat.gcd x.natAbs y=1):(mkRat x y).num=x∧(mkRat x y).den=y:=
  rat_lowest (c:=1) (by decide) (Nat.ne_of_gt hy) (by simp) (by simp) h
theorem qOf_some {n m:Bool} {a b:List Int} {q:Rat} (h:qOf n a m b=some q):numOf n a=some q.num∧numOf m b=some (q.den:Int):=by
  unfold qOf at h
  split at h
  · rename_i x y hx hy
    split at h
    · rename_i hc
      injection h with h
      have h1:=mkRat_low (x:=x) (y:=y.natAbs) (by omega) hc.2;rw[h] at h1;rw[hx,hy,h1.1,h1.2];exact⟨rfl,by rw[show((y.natAbs:Nat):Int)=y by omega]⟩
    · cases h
  · cases h
theorem qOf_rat (q:Rat) (h1:(dig q.num.natAbs).length≤600) (h2:(dig q.den).length≤600):qOf (decide (q.num<0)) (ni (dig q.num.natAbs)) false (ni (dig q.den))=some q:=by
  unfold qOf;have e1:=numOf_dig (z:=q.num) h1;have e2:=numOf_dig (z:=(q.den:Int)) (by rw[Int.natAbs_natCast];exact h2);rw[Int.natAbs_natCast,show decide ((q.den:Int)<0)=false from decide_eq_false (by omega)] at e2;rw[e1,e2];have hd:=Nat.pos_of_ne_zero q.den_nz;have hr:Nat.gcd q.num.natAbs q.den=1:=q.reduced;simp only
  rw[Int.natAbs_natCast,if_pos ⟨by omega,hr⟩,Rat.mkRat_self]
end Go.Proofs.YtngpibfakemmhaaGreatDoor
