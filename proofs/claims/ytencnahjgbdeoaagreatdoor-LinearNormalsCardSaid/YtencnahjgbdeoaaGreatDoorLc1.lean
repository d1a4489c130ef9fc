/- Texts put together. -/
import Derived.Test.YtencnahjgbdeoaaGreatDoorQa
import Derived.Test.YtencnahjgbdeoaaGreatDoorLb1
import Derived.Test.YtencnahjgbdeoaaGreatDoorLa1
namespace Go.Proofs.YtencnahjgbdeoaaGreatDoor
open Go Go.RowKit
set_option maxRecDepth 100000
set_option maxHeartbeats 4000000
variable {B Z t:Nat} {V:Option Nat} {a0:Act} {cs:List Value} {q:Rat} {r:List Rat} {v:Value} {w:World}
section
variable {P:Program} {ops:Array Oper} {Q:Exit→Act→World→Prop} {md:Region.Mode}
def aAr (md:Region.Mode) (ops:Array Oper) (E:List Nat) (o:Nat):Bool:=
 match ops[o]? with
 | none=>false
 | some oi=>(List.range ops.size).all fun j=>E.contains j||j==o||Region.waitsFor md ops o j||Region.waitsFor md ops j o||match ops[j]? with
  | some oj=>oi.apart ops oj
  | none=>true
def AL (md:Region.Mode) (ops:Array Oper) (D:List (Nat × Tmp)) (E:List Nat):Bool:=
 Region.noSelect ops&&tJ md ops [] D&&((List.range ops.size).all fun j=>(D.any fun p=>p.1==j)||E.all fun e=>rY md ops 5 j e)&&D.all fun p=>E.contains p.1||aAr md ops E p.1
def UK (md:Region.Mode) (ops:Array Oper) (D:List (Nat × Tmp)) (E N:List Nat) (f0:Nat):Bool:=
 decide (D.map (·.1)).Nodup&&decide (D.map (·.2)).Nodup&&AL md ops D E&&(N.all fun i=>D.any fun p=>p.1==i)&&f0+D.length==ops.size&&E.all fun i=>D.any fun p=>p.1==i
theorem WQ {S:World→Prop} {D:List (Nat × Tmp)} {E N:List Nat} {F:Nat→Value→World→Prop} {w0:World} {f0:Nat}
  (h1:(D.map (·.1)).Nodup) (h2:(D.map (·.2)).Nodup) (hB:AL md ops D E=true) (hN:∀ i∈N,∃ p∈D,p.1=i)
  (hQ:∀ c a (d:Tmp) v w,Q (.panic c) (a.put (some d) v) w→Q (.panic c) a w)
  (hF:∀ i v w w',F i v w→Below w.heap.size w w'→F i v w')
  (hopt:∀ p∈D,p.1∉E→p.1∉N∧∀ xs w,Below w0.heap.size w0 w→(∀ q∈D,Region.waitsFor md ops p.1 q.1=true→F q.1 (xs q.1) w)→∃ o v,ops[p.1]?=some o∧YieldsIf P ops S o v (aP a0 xs D)∧F p.1 v w)
  (hfin:∀ xs w,Below w0.heap.size w0 w→(∀ p∈D,F p.1 (xs p.1) w)→(∀ i∈N,eT w0 w (xs i))→(∀ i∈N,∀ j∈N,i≠j→xs i≠xs j)→Early P md ops Q S t f0 (kU ops D) (aP a0 xs D) w)
  (hlate:(D.all fun p=>E.contains p.1||tL md ops t p.1)=true) (hSt:∀ w,Below w0.heap.size w0 w→S w) :
  ∀ (m:Nat) (listed:Array Bool) (a:Act) (w:World),jK listed D=m→OnWay md ops D N F a0 w0 listed a w→(∀ e∈E,listed.getD e false=true)→Early P md ops Q S t (f0+m) listed a w:=by
 obtain⟨hB,hO⟩:=aFg.1 hB;obtain⟨hB,hL⟩:=aFg.1 hB;obtain⟨hS,hT⟩:=aFg.1 hB;intro m
 induction m with
 | zero=>
  intro listed a w hm hw hE;obtain⟨⟨xs,rfl,x1,x2,x3⟩,hb,ho,hs,hc⟩:=hw;have hall:∀ p∈D,listed.getD p.1 false=true:=fun p hp=>by
   have h0:=aNp.1 hm p hp
   simpa using h0
  have hN':∀ i∈N,listed.getD i false=true:=fun i hi=>by obtain⟨p,hp,rfl⟩:=hN i hi;exact hall p hp
  rw[BM hall ho hs];exact hfin xs w hb (fun p hp=>x1 p hp (hall p hp)) (fun i hi=>x2 i hi (hN' i hi)) (fun i hi j hj hne=>x3 i hi j hj hne (hN' i hi) (hN' j hj))
 | succ m ih=>
  intro listed a w hm hw hE;obtain⟨⟨xs,rfl,hx⟩,hb,ho,hs,hc⟩:=hw;have hex:∃ p∈D,listed.getD p.1 false=false:=by
   have h0:0<jK listed D:=by omega
   obtain⟨p,hp,h⟩:=aNo.1 h0;exact⟨p,hp,by simpa using h⟩
  have size_of:∀ {p:Nat × Tmp},p∈D→p.1<listed.size:=fun {p} hp=>by
   obtain⟨o,ho',-⟩:=gN hT p hp;obtain⟨h,-⟩:=aFx.1 ho';rw[hs];exact h
  have untrue:∀ {i:Nat},i<listed.size→listed.getD i false=false→listed.getD i true=false:=fun {i} hi h=>by
   simp[hi] at h ⊢;exact h
  have deps:∀ {p:Nat × Tmp},p.1∈Region.ready md ops listed→∀ q∈D,Region.waitsFor md ops p.1 q.1=true→F q.1 (xs q.1) w:=fun {p} hr q hq hwt=>by
   obtain⟨-,oj,hoj,hall⟩:=aJe.1 hr;obtain⟨oj',hoj',e,he,hbd,hon⟩:=aHs hwt;rw[hoj] at hoj';injection hoj' with hoj';subst hoj'
   exact hx.1 q hq (hon▸hall e he hbd)
  obtain⟨p,hp,hu,oi,hoi,hall⟩:=jR hT (fun _ h=>by cases h) hex;have hpE:p.1∉E:=fun h=>by rw[hE _ h] at hu;cases hu
  have hob:aAr md ops E p.1=true:=by
   have h0:=aEx.1 hO p hp;rcases aGr.1 h0 with h0 | h0
   ·exact absurd (by simpa using h0) hpE
   ·exact h0
  have hlt:tL md ops t p.1=true:=by
   rcases aGr.1 (aEx.1 hlate p hp) with h0 | h0
   ·exact absurd (by simpa using h0) hpE
   ·exact h0
  obtain⟨hpN,hopt⟩:=hopt p hp hpE;have hdst:oi.dst=some p.2:=by obtain⟨o2,ho2,hd2⟩:=gN hT p hp;rw[hoi] at ho2;injection ho2 with ho2;rw[ho2];exact hd2
  unfold aAr at hob;rw[hoi] at hob;have hj:=hob;have hr:p.1∈Region.ready md ops listed:=aJe.2 ⟨untrue (size_of hp) hu,oi,hoi,hall⟩;obtain⟨o,v,ho1,hy,hf⟩:=hopt xs w hb (deps hr);rw[hoi] at ho1;injection ho1 with ho1;subst ho1
  refine Early.first hoi (aNb hS) hlt (fun c a w h=>hQ c a p.2 v w (hdst▸h)) (f0+m) listed _ w ?_ hc hr hy (hSt _ hb) ?_
  ·intro j oj hoj hne hun hno;obtain⟨hjs,-⟩:=aFx.1 hoj;have h5:=aEx.1 hj j (aKt.2 hjs);rw[hoj] at h5;rcases aGr.1 h5 with h5 | h5
   ·rcases aGr.1 h5 with h5 | h5
    ·rcases aGr.1 h5 with h5 | h5
     ·rcases aGr.1 h5 with h5 | h5
      ·have:=hE j (by simpa using h5);rw[gR hun] at this;cases this
      ·exact absurd (by simpa using h5) hne
     ·obtain⟨oi',hoi',e,he,hbd,hon⟩:=aHs h5;rw[hoi] at hoi';injection hoi' with hoi';subst hoi'
      have:=hall e he hbd;rw[hon,gR hun] at this;cases this
    ·obtain⟨oj',hoj',e,he,hbd,hon⟩:=aHs h5;rw[hoj] at hoj';injection hoj' with hoj';subst hoj'
     exact absurd hon (hno e he hbd)
   ·exact h5
  ·refine ih _ _ _ ?_ (hdst▸OnWay.put h1 h2 hF hp hr hx hb ho hs hc (aDy _ _) hf (fun h=>absurd h hpN)) (fun e he=>BL (hE e he));have:=jD (size_of hp) hu h1 ⟨p,hp,rfl⟩
   omega
theorem SR {S:World→Prop} {D:List (Nat × Tmp)} {E N:List Nat} {F:Nat→Value→World→Prop} {w0:World} {f0:Nat}
  (h1:(D.map (·.1)).Nodup) (h2:(D.map (·.2)).Nodup) (hB:AL md ops D E=true) (hN:∀ i∈N,∃ p∈D,p.1=i)
  (hQ:∀ c a (d:Tmp) v w,Q (.panic c) (a.put (some d) v) w→Q (.panic c) a w)
  (hF:∀ i v w w',F i v w→Below w.heap.size w w'→F i v w')
  (hop:∀ p∈D,∀ xs w,Below w0.heap.size w0 w→(∀ q∈D,Region.waitsFor md ops p.1 q.1=true→F q.1 (xs q.1) w) →
   wpOp P ops Q p.1 (fun a' w'=>∃ v,a'=(aP a0 xs D).put (some p.2) v∧Below w.heap.size w w'∧F p.1 v w'∧(p.1∈N→eT w w' v)) (aP a0 xs D) w)
  (hopt:∀ p∈D,p.1∉E→p.1∉N∧∀ xs w,Below w0.heap.size w0 w→(∀ q∈D,Region.waitsFor md ops p.1 q.1=true→F q.1 (xs q.1) w)→∃ o v,ops[p.1]?=some o∧YieldsIf P ops S o v (aP a0 xs D)∧F p.1 v w)
  (hfin:∀ xs w,Below w0.heap.size w0 w→(∀ p∈D,F p.1 (xs p.1) w)→(∀ i∈N,eT w0 w (xs i))→(∀ i∈N,∀ j∈N,i≠j→xs i≠xs j)→Early P md ops Q S t f0 (kU ops D) (aP a0 xs D) w)
  (hlate:(D.all fun p=>E.contains p.1||tL md ops t p.1)=true) (hSt:∀ w,Below w0.heap.size w0 w→S w) :
  ∀ (m:Nat) (listed:Array Bool) (a:Act) (w:World),jK listed D=m→OnWay md ops D N F a0 w0 listed a w→wpAny P md ops Q (f0+m) listed a w:=by
 have hopt0:=WQ h1 h2 hB hN hQ hF hopt hfin hlate hSt;obtain⟨hB,hO⟩:=aFg.1 hB;obtain⟨hB,hL⟩:=aFg.1 hB;obtain⟨hS,hT⟩:=aFg.1 hB;intro m
 induction m with
 | zero=>
  intro listed a w hm hw;obtain⟨⟨xs,rfl,x1,x2,x3⟩,hb,ho,hs,hc⟩:=hw;have hall:∀ p∈D,listed.getD p.1 false=true:=fun p hp=>by
   have h0:=aNp.1 hm p hp
   simpa using h0
  have hN':∀ i∈N,listed.getD i false=true:=fun i hi=>by obtain⟨p,hp,rfl⟩:=hN i hi;exact hall p hp
  rw[BM hall ho hs];exact Early.any _ _ _ _ <| hfin xs w hb (fun p hp=>x1 p hp (hall p hp)) (fun i hi=>x2 i hi (hN' i hi)) (fun i hi j hj hne=>x3 i hi j hj hne (hN' i hi) (hN' j hj))
 | succ m ih=>
  intro listed a w hm hw;obtain⟨⟨xs,rfl,hx⟩,hb,ho,hs,hc⟩:=hw;have hex:∃ p∈D,listed.getD p.1 false=false:=by
   have h0:0<jK listed D:=by omega
   obtain⟨p,hp,h⟩:=aNo.1 h0;exact⟨p,hp,by simpa using h⟩
  have size_of:∀ {p:Nat × Tmp},p∈D→p.1<listed.size:=fun {p} hp=>by
   obtain⟨o,ho',-⟩:=gN hT p hp;obtain⟨h,-⟩:=aFx.1 ho';rw[hs];exact h
  have untrue:∀ {i:Nat},i<listed.size→listed.getD i false=false→listed.getD i true=false:=fun {i} hi h=>by
   simp[hi] at h ⊢;exact h
  have deps:∀ {p:Nat × Tmp},p.1∈Region.ready md ops listed→∀ q∈D,Region.waitsFor md ops p.1 q.1=true→F q.1 (xs q.1) w:=fun {p} hr q hq hwt=>by
   obtain⟨-,oj,hoj,hall⟩:=aJe.1 hr;obtain⟨oj',hoj',e,he,hbd,hon⟩:=aHs hwt;rw[hoj] at hoj';injection hoj' with hoj';subst hoj'
   exact hx.1 q hq (hon▸hall e he hbd)
  by_cases hE:∀ e∈E,listed.getD e false=true
  ·exact Early.any _ _ _ _ (hopt0 (m+1) listed _ w hm ⟨⟨xs,rfl,hx⟩,hb,ho,hs,hc⟩ hE)
  ·show wpAny P md ops Q (f0+m+1) listed _ w
   refine⟨fun h0=>?_,fun i hi=>?_⟩
   ·obtain⟨p,hp,hu,o,ho1,hall⟩:=jR hT (fun _ h=>by cases h) hex;have hr:p.1∈Region.ready md ops listed:=aJe.2 ⟨untrue (size_of hp) hu,o,ho1,hall⟩;rw[h0] at hr;cases hr
   ·have hD:∃ p∈D,p.1=i:=by
     refine Classical.byContradiction fun hno=>hE fun e he=>?_
     obtain⟨hjun,oj,hoj,hall⟩:=aJe.1 hi;obtain⟨hjs,-⟩:=aFx.1 hoj;have h5:=aEx.1 hL i (aKt.2 hjs);rcases aGr.1 h5 with h5 | h5
     ·obtain⟨p,hp,h6⟩:=aJr.1 h5;exact absurd ⟨p,hp,by simpa using h6⟩ hno
     ·exact hc.reach 5 i (aEx.1 h5 e he) fun oj' ho' e he hb=>by
       rw[hoj] at ho';injection ho' with ho';subst ho'
       exact hall e he hb
    obtain⟨p,hp,rfl⟩:=hD;refine aMb (fun a' w' h=>?_) (hop p hp xs w hb (deps hi));obtain⟨v,rfl,hbw,hf,hn⟩:=h;refine ih _ _ _ ?_ (OnWay.put h1 h2 hF hp hi hx hb ho hs hc hbw hf hn);have:=jD (size_of hp) (gR (aJe.1 hi).1) h1 ⟨p,hp,rfl⟩
    omega
theorem Flow.startS {id:Nat} {D:List (Nat × Tmp)} (E N:List Nat) (F:Nat→Value→World→Prop) (f0:Nat) (hm:P.follows .mixedOrders=true) (hf0:f0+D.length=ops.size)
  (h1:(D.map (·.1)).Nodup) (h2:(D.map (·.2)).Nodup) (hB:AL .any ops D E=true) (hN:∀ i∈N,∃ p∈D,p.1=i)
  (hQ:∀ c a (d:Tmp) v w,Q (.panic c) (a.put (some d) v) w→Q (.panic c) a w)
  (hF:∀ i v w w',F i v w→Below w.heap.size w w'→F i v w')
  (hop:∀ p∈D,∀ xs w',Below w.heap.size w w'→(∀ q∈D,Region.waitsFor .any ops p.1 q.1=true→F q.1 (xs q.1) w') →
   wpOp P ops Q p.1 (fun a' w''=>∃ v,a'=(aP a0 xs D).put (some p.2) v∧Below w'.heap.size w' w''∧F p.1 v w''∧(p.1∈N→eT w' w'' v)) (aP a0 xs D) w')
  (hopt:∀ p∈D,p.1∉E→p.1∉N∧∀ xs w',Below w.heap.size w w'→(∀ q∈D,Region.waitsFor .any ops p.1 q.1=true→F q.1 (xs q.1) w')→∃ o v,ops[p.1]?=some o∧YieldsIf P ops (fun w'=>Below w.heap.size w w') o v (aP a0 xs D)∧F p.1 v w')
  (hfin:∀ xs w',Below w.heap.size w w'→(∀ p∈D,F p.1 (xs p.1) w')→(∀ i∈N,eT w w' (xs i))→(∀ i∈N,∀ j∈N,i≠j→xs i≠xs j)→Early P .any ops Q (fun w'=>Below w.heap.size w w') t f0 (kU ops D) (aP a0 xs D) w')
  (hlate:(D.all fun p=>E.contains p.1||tL .any ops t p.1)=true) :
  (Code.region id ops true).wp P Q a0 w:=by
 have hd:∀ {w':World},Below w.drew.heap.size w.drew w'→Below w.heap.size w w':=fun h=>⟨h.os,h.tape,h.output,h.size,h.block⟩
 refine wp_region_any hm ?_;rw[← hf0];obtain⟨xs,hxs⟩:=qW (fun t=>a0.tmps.getD t undef) h1;have hnone:∀ j,(Array.replicate (f0+D.length) false).getD j false=false:=fun j=>by simp[Array.getD]
 refine SR (S:=fun w'=>Below w.heap.size w w') (t:=t) (w0:=w.drew) (f0:=f0) h1 h2 hB hN hQ hF (fun p hp xs w' hb=>hop p hp xs w' (hd hb)) (fun p hp hE=>⟨(hopt p hp hE).1,fun xs w' hb=>(hopt p hp hE).2 xs w' (hd hb)⟩)
  (fun xs w' hb k1 k2 k3=>hfin xs w' (hd hb) k1 k2 k3) hlate (fun w' hb=>hd hb) D.length _ a0 w.drew ?_ ⟨⟨xs,(iZ hxs).symm,fun p _ h=>?_,fun i _ h=>?_,fun i _ j _ _ h=>?_⟩,aDy _ _,fun j _=>hnone j,by rw[Array.size_replicate,hf0],fun j oj _ h=>?_⟩
 ·unfold jK;rw[List.countP_eq_length];intro p _;rw[hnone];rfl
 all_goals (rw[hnone] at h;cases h)
theorem Flow.runS {id:Nat} (L1 L2:List yE) (N:List Nat) (f0 t:Nat) (hm:P.follows .mixedOrders=true)
  (hC:UK .any ops (bO (L1++L2)) (L1.map (·.i)) N f0=true) (hNo:(L2.all fun o=>!N.contains o.i)=true)
  (hQ:∀ c a (d:Tmp) v w,Q (.panic c) (a.put (some d) v) w→Q (.panic c) a w)
  (hF:∀ o∈L1++L2,∀ v w w',o.F v w→Below w.heap.size w w'→o.F v w')
  (hop:∀ o∈L1,∀ xs w',Below w.heap.size w w'→(∀ q∈L1++L2,Region.waitsFor .any ops o.i q.i=true→q.F (xs q.i) w') →
   wpOp P ops Q o.i (fun a' w''=>∃ v,a'=(aP a0 xs (bO (L1++L2))).put (some o.d) v∧Below w'.heap.size w' w''∧o.F v w''∧(N.contains o.i=true→eT w' w'' v)) (aP a0 xs (bO (L1++L2))) w')
  (hopt:∀ o∈L2,∀ xs w',Below w.heap.size w w'→(∀ q∈L1++L2,Region.waitsFor .any ops o.i q.i=true→q.F (xs q.i) w')→∃ op v,ops[o.i]?=some op∧YieldsIf P ops (fun w'=>Below w.heap.size w w') op v (aP a0 xs (bO (L1++L2)))∧o.F v w')
  (hfin:∀ xs w',Below w.heap.size w w'→(∀ o∈L1++L2,o.F (xs o.i) w')→(∀ i∈N,eT w w' (xs i))→(∀ i∈N,∀ j∈N,i≠j→xs i≠xs j) →
   Early P .any ops Q (fun w'=>Below w.heap.size w w') t f0 (kU ops (bO (L1++L2))) (aP a0 xs (bO (L1++L2))) w')
  (hlate:((bO (L1++L2)).all fun p=>(L1.map (·.i)).contains p.1||tL .any ops t p.1)=true) :
  (Code.region id ops true).wp P Q a0 w:=by
 unfold UK at hC;simp only[aFs] at hC
 obtain⟨⟨⟨⟨⟨h1,h2⟩,hB⟩,hN⟩,hf0⟩,-⟩:=hC;replace h1:=aGw h1;replace h2:=aGw h2;have inD:∀ p∈bO (L1++L2),∃ o∈L1++L2,p=(o.i,o.d):=fun p hp=>by
  obtain⟨o,ho,rfl⟩:=aFc.1 hp;exact⟨o,ho,rfl⟩
 have toD:∀ o∈L1++L2,(o.i,o.d)∈bO (L1++L2):=fun o ho=>aFc.2 ⟨o,ho,rfl⟩
 have one:∀ {o:yE},o∈L1++L2→∀ {v w},o.F v w→∀ q∈L1++L2,q.i=o.i→q.F v w:=fun {o} ho {v w} h q hq e=>by
  obtain rfl:=uJ h1 hq ho e;exact h
 have notN:∀ o∈L2,o.i∉N:=fun o ho h=>by
  have:=aEx.1 hNo o ho;simp[h] at this
 have deps:∀ (i:Nat) (xs:Nat→Value) (w':World),(∀ q∈bO (L1++L2),Region.waitsFor .any ops i q.1=true→∀ o∈L1++L2,o.i=q.1→o.F (xs q.1) w')→∀ q∈L1++L2,Region.waitsFor .any ops i q.i=true→q.F (xs q.i) w':=
  fun i xs w' h q hq hw=>h (q.i,q.d) (toD q hq) hw q hq rfl
 refine Flow.startS (t:=t) (D:=bO (L1++L2)) (L1.map (·.i)) N (fun i v w=>∀ o∈L1++L2,o.i=i→o.F v w) f0 hm (by simpa using hf0) h1 h2 hB (fun i hi=>?_) hQ (fun i v w w' h hb o ho e=>hF o ho v w w' (h o ho e) hb) ?_ ?_ ?_ hlate
 ·obtain⟨p,hp,e⟩:=aJr.1 (aEx.1 hN i hi);exact⟨p,hp,by simpa using e⟩
 ·intro p hp xs w' hb hd;obtain⟨o,ho,rfl⟩:=inD p hp;rcases aGb.1 ho with ho1 | ho2
  ·refine aMb (fun a' w'' h=>?_) (hop o ho1 xs w' hb (deps _ _ _ hd));obtain⟨v,e,hbw,hf,hn⟩:=h;exact⟨v,e,hbw,one ho hf,fun h=>hn (by simpa using h)⟩
  ·obtain⟨op,v,h3,hy,hf⟩:=hopt o ho2 xs w' hb (deps _ _ _ hd);refine hy.wpOp h3 hb ⟨v,?_,aDy _ _,one ho hf,fun h=>absurd h (notN o ho2)⟩;obtain⟨hT,hO⟩:=aFg.1 (aFg.1 (aFg.1 hB).1).1;obtain⟨o',ho',hd'⟩:=gN hO _ hp;rw[h3] at ho';injection ho' with ho';subst ho'
   rw[hd']
 ·intro p hp hE;obtain⟨o,ho,rfl⟩:=inD p hp;rcases aGb.1 ho with ho1 | ho2
  ·exact absurd (aHx ho1) hE
  ·refine⟨notN o ho2,fun xs w' hb hd=>?_⟩;obtain⟨op,v,h3,hy,hf⟩:=hopt o ho2 xs w' hb (deps _ _ _ hd);exact⟨op,v,h3,hy,one ho hf⟩
 ·intro xs w' hb k1 k2 k3;exact hfin xs w' hb (fun o ho=>k1 (o.i,o.d) (toD o ho) o ho rfl) k2 k3
end
open Dig
set_option linter.unusedSimpArgs false
theorem jP {b:Nat} {t:TypeId} {arr:Array Value} (h:CB w b t arr) (cs:List Value) (e:arr=cs.toArray):∀ j u,cs[j]?=some u→w.cell? ((⟨b,0,none⟩:Addr).add j)=some u:=by
 intro j u hj;rw[rJ,aIx];exact h.cell j (by rw[e];simpa using hj)
theorem E3.below {w':World} {g p:Nat} {x0 x1 x2:Value} (h:E3 w g p x0 x1 x2) (hb:Below B w w') (hg:g<B):E3 w' g p x0 x1 x2:=
 ⟨(hb.cell (p:=⟨g,p,none⟩) hg).trans h.c0,(hb.cell (p:=⟨g,p+1,none⟩) hg).trans h.c1,(hb.cell (p:=⟨g,p+2,none⟩) hg).trans h.c2⟩
theorem IC (w:World) (o:Obj):(w.alloc o).heap.size=w.heap.size+1:=by simp
theorem LT.fin {fn:Func} {p:Tmp} {b:Nat} {x0:Value} {tmps:Array Value} {Q:Ending→World→Prop} (hf:fn.results=#[.cell p 100]) (hC:CB w b 100 #[x0]) (hp:tmps.getD p undef=.pointer (some ⟨b,0,none⟩)) (h:Q (.returned (.agg #[v])) (w.setCell ⟨b,0,none⟩ v)) :
  bodyPost Tryz.prog fn Q .ret ⟨tmps,[]⟩ (w.setCell ⟨b,0,none⟩ v):=
 aFv (aKc hf tmps _ b _ #[v] (0,0) _ hp (show CB _ b _ #[v] from aGj hC 0 v) Tryz.underlying100 rfl (by kernel_rfl)) rfl h
theorem SL.drew1 {α:Type} {k:Nat} {E:Elem α} {l:List α} (h:SL k E w w.heap.size v l) (hE:E.Stable):SL k E w.drew w.drew.heap.size v l:=h.step hE (aA (aDy _ _))
abbrev aNe:=@SL.drew1
theorem iI (w:World) (t:TypeId) (cs:List Value):∀ j u,cs[j]?=some u→(w.alloc (.cells cs.toArray t)).cell? ((⟨w.heap.size,0,none⟩:Addr).add j)=some u:=by
 intro j u hj;rw[rJ,aIx];exact(aHl w t cs.toArray).cell j (by simpa using hj)
theorem GO (args:Array Value) (w1:World):(callFunc 129 args).run Tryz.prog w1=.ok (.enter 129 args) w1:=by kernel_rfl
theorem ER.ones:∀ (w:World) (B:Nat) (cs:List Value) (a:Rat),ER w B cs a→∀ u∈cs,u.oneCell'=true:=by
 rintro w B cs a ⟨c0,c1,c2,rfl,n,A,l,c,A',l',c',e,-⟩ u hu;injection e with e
 simp at e
 obtain⟨rfl,rfl,rfl⟩:=e;simp at hu
 rcases hu with rfl | rfl | rfl <;> rfl
theorem MI (w:World) (A:Option Addr) (n c:Nat) (l:List Rat) (h:RS w w.heap.size (.slice A n c) l) (h1:0<l.length) (hl:l.length≤1000000) :
  CV 118 #[.slice A n c] w fun e w'=>∃ v,e=.returned v∧OA 3 ER 88 w' w.heap.size v l:=by
 obtain⟨rfl,hn1,hn2⟩:=aHb h;obtain⟨g,off,rfl,hg⟩:∃ g off,A=some ⟨g,off,none⟩∧g<w.heap.size:=by
  obtain⟨g,off,xn,xA,xl,xc,xB,xu,xd,e,hg,-⟩:=RS.elem h h1;exact⟨g,off,e,hg⟩
 have a0:Below w.heap.size w (w.alloc (.cells #[] 88)):=aB (aDy _ _) _;have HS:=zz (SL.cells (h.step aEw a0) h1 ER.ones);have HO:Hi (OA 3 ER 88 (w.alloc (.cells #[] 88)) w.heap.size (.slice (some ⟨w.heap.size,0,none⟩) 0 0) ([]:List Rat)):=zz (.inr ⟨w.heap.size,0,rfl,aEa _,by omega,#[],aHl _ _ _,fun i v _ _ hv=>by simp at hv,⟨aEa _,by simp⟩,fun j hj=>absurd hj (by simp)⟩);have HL:=zz hl;have b0:=zz a0;clear h a0 hl;obtain⟨i,hi,hz,hs,hby⟩:=aGf iL;have q22:∀ (w:World) (a:Option Addr) (n c n' c':Nat),(binOp .eql 65 (.slice a n c) (.slice none n' c')).run Tryz.prog w=.ok (.bool a.isNone) w:=fun w a n c n' c'=>Lib.run_eql_slice_nil w _ _ a n c n' c' Tryz.underlying65
 go_enter Tryz.func118,Tryz.ntmps118
 go_wp2_with (at_builtin;refine aO rfl _ _ _ rfl w.heap.size 88 i _ 56 Tryz.underlying65 hi hz hs hby rfl (by decide) (by decide) aEw aKb HO.o rfl ⟨g,off,none⟩ c l rfl h1 HS.o.choose HS.o.choose_spec.1 HS.o.choose_spec.2.1 HS.o.choose_spec.2.2 (by have:=HL.o;simp only[maxLen,aEm];omega) (by have:=HL.o;simp only[aEm];omega) (by simp) ?_)
 intro v' w' hoa hb hs' hg' hat;have e0:=zz hoa;have f0:=zz (b0.o.trans hb);clear hoa hb hs' hg' hat;go_wp2;go_ret;exact⟨f0.o,_,rfl,e0.o⟩
theorem IU (w:World) (A:Option Addr) (n c:Nat) (M:List (List Rat)) (h:RM w w.heap.size (.slice A n c) M) (hM:0<M.length) (hW:Wide M (aM M)) (hm:M.length≤1000000∧aM M≤1000000) :
  CV 93 #[.slice A n c] w fun e w'=>∃ v,e=.returned v∧RM w' w'.heap.size v (cI M):=by
 obtain⟨rfl,hn1,hn2⟩:=aHb h;obtain⟨g0,off0,A0,c0,rfl,hg0,hc0,-⟩:=aKy h hM;rw[aGd] at hc0;obtain⟨k,hk⟩:=ex (aM M);have f0:M[0].length=k:=by rw[hk,aM,aG hM]
 rw[f0] at hc0;rw[← hk] at hW hm;have HQ:=zz h;have q0:=zz hW;have k0:=zz hm;have HK:=zz hk;clear h hW hm hk f0 hg0;obtain⟨ir,hir,hzr,hsr,hbr⟩:=aGf nB;have j0:=zz (aDy w.heap.size w);have hm0:(0:Int)<(M.length:Int):=by omega
 have hkk:(k:Int)≤1000000:=by have:=k0.o;omega
 have hlen:(cI M).length=k:=by unfold cI;rw[aEb,List.length_range,HK.o]
 have m0:=zz hlen;clear hlen;have r0:Hi (OMV 3 ER 88 65 w w.heap.size (.slice none 0 0) (fun _=>0) (fun _=>0) ((cI M).take 0)):=zz OMV.nil;go_enter Tryz.func93,Tryz.ntmps93
 go_wp2;clear hc0 hm0;go_loopw [3,9] (fun ov iv wr=>∃ (j:Nat) (G C:Nat→Nat),j≤k∧iv=.int .i64 j∧Hi (OMV 3 ER 88 65 wr w.heap.size ov G C ((cI M).take j))∧Hi (Below w.heap.size w wr)) (fun _ iv _=>k-(intOf iv).toNat)
 case atStart=>exact⟨0,_,_,aEy _,rfl,r0,j0⟩
 case round=>
  obtain⟨j,G,C,hj,rfl,HO,HW⟩:=hrel;have zr:=HW.o.size;by_cases hlt:j<k
  ·skip
   go_upto_region 5 with (fail)
   obtain⟨w1,a0⟩:=ex (wr.alloc (.cells #[.int .i64 (j:Int)] 3));rw[← a0];have e0:=cL a0;have za1:=cJ a0;have B2:=zz (cK a0);have z2:=B2.o.size;have b0:=tr HW B2;clear a0;have HJ:=zz e0;go_wp2_with fail
   refine(nx b0 (zH _ _ _ c M 129 (.pointer (some ⟨wr.heap.size,0,none⟩)) (fun r=>r.getD j 0) (HQ.o.step (aFl aEw) b0.o) k0.o.1 GO (fun w2 i hi A' u c' hb hr=>GP w2 A' u c' wr.heap.size j M[i] hr (by rw[q0.o _ (aEc hi)];exact hlt) (show One w2 _ _ _ from aEd HJ.o hb)))).mono ?_;rintro e w4 ⟨⟨B5,z5,i0⟩,g,rfl,hg,hob⟩;have HG:=zz hg;have d0:Below w4.heap.size w4 (w4.alloc (.cells #[.slice (some ⟨g,0,none⟩) M.length M.length] 65)):=aB (aDy _ _) _;have P0:=tr B2 B5;have s0:=zz (aKi hob aEw d0);have n0:=zz ((HO.o.step aEw P0.o).step aEw d0);have b0:=zz (i0.o.trans (d0.mono i0.o.size));clear hg hob d0;go_wp2_with (at_builtin;go_loud (refine aO rfl _ _ _ rfl w.heap.size 65 ir _ 24 Tryz.underlying78 hir hzr hsr hbr rfl (by decide) (by decide) aLi aLj n0.o.hdr rfl ⟨w4.heap.size,0,none⟩ 1 [.slice (some ⟨g,0,none⟩) M.length M.length] rfl Nat.one_pos [.slice (some ⟨g,0,none⟩) M.length M.length] (aLt rfl ⟨rfl,rfl⟩) (cell_one_new _ _ _) (by intro u hu;simp at hu;subst hu;rfl) (by have:=k0.o;simp only[aV,aEk,aEl,aEm,maxLen];omega) (by have:=k0.o;simp only[aV,aEk,aEl,aEm];omega) (by simp;omega) ?_))
   intro v' w' hoa hb hs' hg' hat;have ht:(cI M).take j++[M.map fun r=>r.getD j 0]=(cI M).take (j+1):=by rw[aFj,aEh (by rw[m0.o];exact hlt)];unfold cI;simp;rfl
   have hl1:(M.map fun r=>r.getD j 0).length=M.length:=by rw[aEb]
   have happ:=n0.o.app aKb (g:=g) (c:=M.length) (l:=M.map fun r=>r.getD j 0) ⟨by have:=HG.o;omega,fun e=>by have:=(HO.o.hdr.blk e).1;have:=HG.o;omega⟩ (fun i hi=>by have:=(HO.o.rows i hi).lt;have:=HG.o;omega) ⟨by rw[hl1];exact aEa _,by have:=k0.o;omega⟩ s0.o (by rw[hl1];exact hoa) hs' hg' (by simpa using hat);rw[ht] at happ;have t0:=zz happ;have u0:=zz (b0.o.trans (hb.mono (aEa _)));clear happ ht hl1 hoa hb hs' hg' hat;go_wp2;go_roundw
   case rel=>exact⟨j+1,_,_,hlt,by go_num,t0,u0⟩
   case measure=>exact ms
  ·obtain rfl:j=k:=by omega
   have h1:=HO.o.sl;rw[aFa (by rw[m0.o];exact aEa _)] at h1;have H1:=zz h1;clear h1;go_wp2;go_ret;exact⟨HW.o,_,rfl,H1.o⟩
theorem CU (w:World) (A B:Option Addr) (n c m d:Nat) (M:List (List Rat)) (b:List Rat) (ha:RM w w.heap.size (.slice A n c) M) (hb:RS w w.heap.size (.slice B m d) b) (hM:0<M.length) (hle:M.length≤b.length) (hW:∀ r∈M,0<r.length∧r.length≤999999) (hm:M.length≤1000000) :
  CV 70 #[.slice A n c,.slice B m d] w fun e w'=>∃ tb R G C,e=.returned (.agg #[.slice (some ⟨tb,0,none⟩) M.length R])∧R≤9223372036854775807∧OM 3 ER 88 65 w' w.heap.size tb R G C (bM M b):=by
 obtain⟨rfl,hn1,hn2⟩:=aHb ha;obtain⟨rfl,hm1,hm2⟩:=aHb hb;have HQ:=zz ha;have HS:=zz hb;have N1:=zz hW;have O1:=zz hm;have r1:=zz hle;clear ha hb hW hm hle;obtain⟨ir,hir,hzr,hsr,hbr⟩:=aGf nB;obtain⟨iq,hiq,hzq,hsq,hbq⟩:=aGf iL;have hkk:(M.length:Int)≤1000000:=by have:=O1.o;omega
 have hlw:(bM M b).length=M.length:=by simp[bM]
 have p1:=zz hlw;clear hlw;obtain⟨w0,hw0⟩:=ex (w.alloc (.cells #[.slice none 0 0] 100));have B0:=zz (cK hw0);have z0:=cJ hw0;have Lr4:=cL hw0;go_enter Tryz.func70,Tryz.ntmps70
 go_upto_region 1 with (fail)
 rw[← hw0];clear hw0;go_upto_region 2 with (fail)
 obtain⟨w1,i0⟩:=ex (w0.alloc (.cells #[.slice none 0 0] 100));rw[← i0];have y0:=cL i0;have za1:=cJ i0;have B2:=zz (cK i0);have z2:=B2.o.size;have G0:=tr B0 B2;clear i0;have P1:=zz (show w.heap.size<w0.heap.size by omega);have Q1:Hi (OMV 3 ER 88 65 w1 (w0.heap.size+1) (.slice none 0 0) (fun _=>0) (fun _=>0) ((bM M b).take 0)):=zz OMV.nil;have n0:=aEd Lr4 B2.o;go_wp2;go_loopw [10] (fun iv wr=>∃ (j:Nat) (G C:Nat→Nat) (oA:Option Addr) (ol oc:Nat),j≤M.length∧iv=.int .i64 j∧Hi (CB wr w0.heap.size 100 #[.slice oA ol oc])∧Hi (CB wr w.heap.size 100 #[.slice none 0 0])∧Hi (OMV 3 ER 88 65 wr (w0.heap.size+1) (.slice oA ol oc) G C ((bM M b).take j))∧Hi (Below w.heap.size w wr)∧w0.heap.size+1≤wr.heap.size) (fun iv _=>M.length-(intOf iv).toNat)
 case atStart=>exact⟨0,_,_,_,_,_,aEy _,rfl,zz y0,zz n0,Q1,G0,by omega⟩
 case round=>
  obtain⟨j,G,C,oA,ol,oc,hj,rfl,HT,HR,HO,HW,zr⟩:=hrel;have htb:=P1.o;by_cases hlt:j<M.length
  ·obtain⟨g,off,A',c',rfl,hg,hcell,hrow⟩:=aKy HQ.o hlt;obtain⟨g',off',yn,yA,yl,yc,yB,yu,yd,rfl,hg',hE',hy⟩:=RS.elem HS.o (aEt hlt r1.o);replace hcell:=(HW.o.cell (p:=⟨g,off+j,none⟩) hg).trans hcell;have I1:=zz (hrow.step aEw HW.o);replace hE':=hE'.step HW.o;have HY:=zz (aHm hy HW.o);have g2:=zz hg';have h2:=zz hE';clear hrow hg hg' hy;have hji:(0:Int)≤(j:Int)∧(j:Int)<(M.length:Int):=(by omega);have hjs:(j:Int)<(b.length:Int):=(by have:=r1.o;omega);obtain⟨hU1,hU2⟩:=N1.o _ (aEc hlt);generalize hU:M[j].length=u at hcell I1;have HU:=zz hU;have v1:=zz (aEn hU1 hU2);clear hU hU1 hU2;go_upto_region 5 with (fail)
   clear hcell;refine Flow.runS [⟨2,17,fun fv fw=>fv=.slice A' u c'⟩,⟨3,18,fun fv fw=>OA 3 ER 88 fw wr.heap.size fv M[j]⟩,⟨4,19,fun fv fw=>fv=.slice (some ⟨g',off',none⟩) b.length d⟩,⟨5,20,fun fv fw=>fv=.int .i64 (j:Int)⟩,⟨6,21,fun fv fw=>fv=.pointer (some ⟨g',off'+j*3,none⟩)⟩,⟨7,22,fun fv fw=>fv=.agg #[.bool yn,.slice yA yl yc,.slice yB yu yd]⟩,⟨8,23,fun fv fw=>∃ zb,fv=.slice (some ⟨zb,0,none⟩) 1 1∧CB fw zb 88 #[.bool yn,.slice yA yl yc,.slice yB yu yd]⟩] [⟨0,15,fun fv fw=>fv=.pointer (some ⟨w0.heap.size,0,none⟩)⟩,⟨1,16,fun fv fw=>fv=.slice oA ol oc⟩] [] 5 11 (by kernel_rfl) (by kernel_rfl) (by kernel_rfl) (fun _ _ _ _ _ h=>h) ?_ ?_ ?_ ?_ (by kernel_rfl)
   ·refine(aI (fun v w1 w2 h hb=>h) (aI (fun v w1 w2 h hb=>h.step aEw hb) (aI (fun v w1 w2 h hb=>h) (aI (fun v w1 w2 h hb=>h) (aI (fun v w1 w2 h hb=>h) (aI (fun v w1 w2 h hb=>h) (aI (fun v w1 w2 h hb=>let ⟨b,e,h⟩:=h;⟨b,e,h.step hb⟩) (aI (fun v w1 w2 h hb=>h) (aI (fun v w1 w2 h hb=>h) aD)))))))))
   ·refine(aI ?_ (aI ?_ (aI ?_ (aI ?_ (aI ?_ (aI ?_ (aI ?_ aD)))))))
    ·intro xs wk5 a0 b0;clear a0;clear b0;refine wo fun K hK=>?_;simp only[FL]
     go_simp;refine hK _ _ ⟨.slice A' u c',by kernel_rfl,aDy _ _,rfl,nF⟩
    ·intro xs wk6 a0 b0;have A0:=zz a0;have l1:=a0.size;clear a0;have f2:(xs 2)=.slice A' u c':=b0 _ (m_ 0 rfl) (by kernel_rfl);clear b0;refine wo fun K hK=>?_;simp only[FL]
     go_simp;(with_reducible refine(MI _ A' u c' M[j] (I1.o.step aEw A0.o) v1.o.1 (by have:=v1.o;omega)).mono ?_)
     rintro e wc7 ⟨H0,v7,rfl,I0⟩;refine hK _ _ ⟨v7,by simp only[FL,f2] <;> kernel_rfl,H0,I0.weak (by omega),nF⟩
    ·intro xs wk8 a0 b0;clear a0;clear b0;refine wo fun K hK=>?_;simp only[FL]
     go_simp;refine hK _ _ ⟨.slice (some ⟨g',off',none⟩) b.length d,by kernel_rfl,aDy _ _,rfl,nF⟩
    ·intro xs wk9 a0 b0;clear a0;clear b0;refine wo fun K hK=>?_;simp only[FL]
     go_simp;refine hK _ _ ⟨.int .i64 (j:Int),by kernel_rfl,aDy _ _,rfl,nF⟩
    ·intro xs wk10 a0 b0;clear a0;have f4:(xs 4)=.slice (some ⟨g',off',none⟩) b.length d:=b0 _ (m_ 2 rfl) (by kernel_rfl);have f5:(xs 5)=.int .i64 (j:Int):=b0 _ (m_ 3 rfl) (by kernel_rfl);clear b0;refine wo fun K hK=>?_;simp only[FL]
     go_simp;refine hK _ _ ⟨.pointer (some ⟨g',off'+j*3,none⟩),by simp only[FL,f4,f5] <;> kernel_rfl,aDy _ _,rfl,nF⟩
    ·intro xs wk11 a0 b0;have o0:=zz a0;have X0:=a0.size;clear a0;have f6:(xs 6)=.pointer (some ⟨g',off'+j*3,none⟩):=b0 _ (m_ 4 rfl) (by kernel_rfl);clear b0;refine wo fun K hK=>?_;simp only[FL]
     have d0:=aIb hE' o0.o;have L0:=ez3 d0;go_simp;refine hK _ _ ⟨.agg #[.bool yn,.slice yA yl yc,.slice yB yu yd],by simp only[FL,f6] <;> kernel_rfl,aDy _ _,rfl,nF⟩
    ·intro xs C0 a0 b0;clear a0;have f7:(xs 7)=.agg #[.bool yn,.slice yA yl yc,.slice yB yu yd]:=b0 _ (m_ 5 rfl) (by kernel_rfl);clear b0;refine wo fun K hK=>?_;simp only[FL]
     go_simp;refine hK _ _ ⟨.slice (some ⟨C0.heap.size,0,none⟩) 1 1,by simp only[FL,f7] <;> kernel_rfl,(aDy _ _).alloc (aEa _) _,⟨_,rfl,aHl _ _ _⟩,nF⟩
   ·refine(aI ?_ (aI ?_ aD))
    ·intro xs Z0 a0 b0;clear a0;clear b0;refine⟨_,.pointer (some ⟨w0.heap.size,0,none⟩),rfl,Or.inl ⟨by rfl,fun b1 hS=>?_⟩,rfl⟩;have Q0:=zz hS;have d1:=hS.size;clear hS;simp only[FL]
     go_simp
    ·intro xs e1 a0 b0;clear a0;have f0:(xs 0)=.pointer (some ⟨w0.heap.size,0,none⟩):=b0 _ (m_ 7 rfl) (by kernel_rfl);clear b0;refine⟨_,.slice oA ol oc,rfl,Or.inl ⟨by rfl,fun h1 hS=>?_⟩,rfl⟩;have p0:=zz hS;have i1:=hS.size;clear hS;have j0:=aEd HT.o p0.o;have S0:=j0.cell 0 rfl;have S1:=j0.lt;simp only[FL]
     go_simp
   ·intro xs z1 hbf hf hn hd;have f2:(xs 2)=.slice A' u c':=hf _ (m_ 0 rfl);have f3:OA 3 ER 88 z1 wr.heap.size (xs 3) M[j]:=hf _ (m_ 1 rfl);have f4:(xs 4)=.slice (some ⟨g',off',none⟩) b.length d:=hf _ (m_ 2 rfl);have f5:(xs 5)=.int .i64 (j:Int):=hf _ (m_ 3 rfl);have f6:(xs 6)=.pointer (some ⟨g',off'+j*3,none⟩):=hf _ (m_ 4 rfl);have f7:(xs 7)=.agg #[.bool yn,.slice yA yl yc,.slice yB yu yd]:=hf _ (m_ 5 rfl);have f8:∃ zb,(xs 8)=.slice (some ⟨zb,0,none⟩) 1 1∧CB z1 zb 88 #[.bool yn,.slice yA yl yc,.slice yB yu yd]:=hf _ (m_ 6 rfl);have f0:(xs 0)=.pointer (some ⟨w0.heap.size,0,none⟩):=hf _ (m_ 7 rfl);have f1:(xs 1)=.slice oA ol oc:=hf _ (m_ 8 rfl);clear hf hn hd;simp only[FL]
    have B22:=zz hbf;have z22:=B22.o.size;have j1:=tr HW B22;clear hbf;generalize xs 2=x2 at *
    generalize xs 3=x3 at *
    generalize xs 4=x4 at *
    generalize xs 5=x5 at *
    generalize xs 6=x6 at *
    generalize xs 7=x7 at *
    generalize xs 8=x8 at *
    generalize xs 0=x0 at *
    generalize xs 1=x1 at *
    obtain rfl:=f2;have T1:=zz f3;clear f3;obtain rfl:=f4;obtain rfl:=f5;obtain rfl:=f6;obtain rfl:=f7;obtain⟨bs24,rfl,Lb24⟩:=f8;obtain rfl:=f0;obtain rfl:=f1;have U1:=st aHm HY B22;have V1:=zz Lb24;have z8:=B22.o.size;refine en 9 rfl fun K hK=>?_;rw[aEv (show Region.wanted _ _=true from rfl)];refine gV _ _ _ rfl wr.heap.size 88 iq _ 56 Tryz.underlying65 hiq hzq hsq hbq rfl (by decide) (by decide) aEw aKb T1.o rfl ⟨bs24,0,none⟩ 1 [b[j]'(aEt hlt r1.o)] rfl Nat.one_pos [.bool yn,.slice yA yl yc,.slice yB yu yd] (aLt rfl ⟨_,_,_,rfl,U1.o⟩) (jP V1.o [_,_,_] rfl) (by intro u hu;simp at hu;rcases hu with rfl | rfl | rfl <;> rfl) (by have:=v1.o;simp only[aEl,aEm,maxLen];omega) (by have:=v1.o;simp only[aEl,aEm];omega) (by omega) ?_;intro v9 w9 hoa9 u0 hs9 hg9 hat9;have k0:=zz (show Below wr.heap.size wr w9 from B22.o.trans u0);have u1:=zz hoa9;clear hoa9 u0 hs9 hg9 hat9;refine hK _ _ (fun _=>k0.o) ?_;clear hK K;(try simp only[PT])
    obtain⟨R9,hR9⟩:=ex (M[j]++[b[j]'(aEt hlt r1.o)]);rw[← hR9] at u1;have hR0:R9.length=M[j].length+1:=by rw[hR9];simp
    have W1:=zz hR9;have X1:=zz hR0;clear hR9 hR0;obtain⟨g9,c9,J0,hg9,hc9,hob9⟩:∃ g c,v9=.slice (some ⟨g,0,none⟩) R9.length c∧wr.heap.size≤g∧c≤9223372036854775807∧OB 3 ER 88 w9 g c R9:=by
     rcases u1.o with ⟨-,e⟩ | h
     ·have:=X1.o;rw[e] at this;simp at this
     ·exact h
    subst J0;have A1:=zz hob9;have Y1:=zz hc9;have B1:=zz hg9;clear hob9 hc9 hg9 u1;have e0:=zz (aB k0.o (.cells #[.slice (some ⟨g9,0,none⟩) R9.length c9] 65));refine en 10 rfl fun K hK=>?_;go_simp;refine hK _ _ (fun _=>e0.o) ?_;clear hK K;(try simp only[PT])
    have C1:=zz (HO.o.step aEw e0.o);have l0:Below w9.heap.size w9 (w9.alloc (.cells #[.slice (some ⟨g9,0,none⟩) R9.length c9] 65)):=aB (aDy _ _) _;have H1:=zz (A1.o.step aEw l0);clear l0;have hz9:=k0.o.size;refine en 11 rfl fun K hK=>?_;rw[aEv (show Region.wanted _ _=true from rfl)];refine gV _ _ _ rfl (w0.heap.size+1) 65 ir _ 24 Tryz.underlying78 hir hzr hsr hbr rfl (by decide) (by decide) aLi aLj C1.o.hdr rfl ⟨w9.heap.size,0,none⟩ 1 [.slice (some ⟨g9,0,none⟩) R9.length c9] rfl Nat.one_pos [.slice (some ⟨g9,0,none⟩) R9.length c9] (aLt rfl ⟨rfl,rfl⟩) (cell_one_new _ _ _) (by intro u hu;simp at hu;subst hu;rfl) (by simp only[aV,aEk,aEl,aEm,maxLen];omega) (by simp only[aV,aEk,aEl,aEm];omega) (by simp;omega) ?_;intro v11 w11 hoa11 h0 hs11 hg11 hat11;refine hK _ _ (fun h=>absurd h (by decide)) ?_;clear hK K;(try simp only[PT])
    have ht:(bM M b).take j++[R9]=(bM M b).take (j+1):=by rw[aFj,aEh (by rw[p1.o];exact hlt),W1.o];simp[bM];rw[aEh (aEt hlt r1.o)];rfl
    have happ:=C1.o.app aKb (g:=g9) (c:=c9) (l:=R9) ⟨by have:=B1.o;omega,fun e=>by have:=(HO.o.hdr.blk e).1;have:=B1.o;omega⟩ (fun i hi=>by have:=(HO.o.rows i hi).lt;have:=B1.o;omega) ⟨A1.o.len,Y1.o⟩ H1.o hoa11 hs11 hg11 (by simpa using hat11);rw[ht] at happ;obtain⟨g11,c11,D0⟩:∃ g c,v11=.slice (some ⟨g,0,none⟩) (j+1) c:=by
     rcases hoa11 with ⟨-,e⟩ | ⟨g,c,e,-⟩
     ·simp at e
     ·refine⟨g,c,?_⟩;rw[e];simp[aV,p1.o];omega
    subst D0;have Z1:=zz happ;have o1:Hi (CB w11 w0.heap.size 100 #[.slice oA ol oc]):=zz ((h0.block w0.heap.size (by omega)).trans (aEd HT.o e0.o));have J1:Hi (CB w11 w.heap.size 100 #[.slice none 0 0]):=zz ((h0.block w.heap.size (by omega)).trans (aEd HR.o e0.o));have E0:=zz ((HW.o.trans (e0.o.mono HW.o.size)).trans (h0.mono (by omega)));have hz11:=hs11.1;simp only[IC] at hz11;clear happ ht hoa11 h0 hs11 hg11 hat11;refine en 12 rfl fun K hK=>?_;go_simp;refine hK _ _ (fun h=>absurd h (by decide)) ?_;clear hK K;(try simp only[PT])
    have q0:=o1.o.cell 0 rfl;have q1:=o1.o.frozen 0;have q2:=o1.o.lt;refine en 13 rfl fun K hK=>?_;go_simp;refine hK _ _ (fun h=>absurd h (by decide)) ?_;clear hK K;(try simp only[PT])
    clear q0 q1 q2;refine aIj (by kernel_rfl) ?_ _;(try simp only[Exit.then])
    have S12:Go.Proofs.YtencnahjgbdeoaaGreatDoor.Soft w11 (w11.setCell ⟨w0.heap.size,0,none⟩ (.slice (some ⟨g11,0,none⟩) (j+1) c11)):=aHk o1.o (by simp[aE]) 0 _;have K1:=zz (Z1.o.put aKb (aMz _) S12);have L1:Hi (CB (w11.setCell ⟨w0.heap.size,0,none⟩ (.slice (some ⟨g11,0,none⟩) (j+1) c11)) w0.heap.size 100 #[.slice (some ⟨g11,0,none⟩) (j+1) c11]):=zz (aGj o1.o 0 _);have M1:=zz (aMl (p:=⟨w0.heap.size,0,none⟩) J1.o (show w.heap.size≠w0.heap.size by omega) (.slice (some ⟨g11,0,none⟩) (j+1) c11));have F0:=zz (bV (b:=w0.heap.size) E0.o (by omega) 0 (.slice (some ⟨g11,0,none⟩) (j+1) c11));have hz12:=S12.1;clear S12;go_wp2;go_roundw
    case rel=>exact⟨j+1,_,_,_,_,_,hlt,by go_num,L1,M1,K1,F0,by omega⟩
    case measure=>exact ms
  ·obtain rfl:j=M.length:=by omega
   rw[aFa (by rw[p1.o];exact aEa _)] at HO;obtain⟨tb,R,hv,hR,hom⟩:=HO.o.om (by rw[p1.o];exact hM);injection hv with g0 v0 m0;subst g0;subst v0;subst m0
   have i2:=zz hom;have a2:=zz hR;clear hom hR;have r0:=HT.o.cell 0 rfl;have D1:=HT.o.lt;have s0:=HR.o.cell 0 rfl;have E1:=HR.o.lt;have t0:=HR.o.frozen 0;have F1:=HR.o.lt;go_wp2;clear r0 D1 s0 E1 t0 F1;refine LT.fin rfl HR.o rfl ?_;have S9:Go.Proofs.YtencnahjgbdeoaaGreatDoor.Soft wr (wr.setCell ⟨w.heap.size,0,none⟩ (.slice (some ⟨tb,0,none⟩) (bM M b).length oc)):=aHk HR.o (by simp[aE]) 0 _;have h9:=(HO.o.put aKb (b:=w.heap.size) (by omega) S9).om (by rw[p1.o];exact hM);obtain⟨tb',R',hv',hR',hom'⟩:=h9;injection hv' with g0 v0 m0;injection g0 with g0;injection g0 with g0;subst g0;subst m0
   exact⟨bV HW.o (aEa _) _ _,tb,oc,G,C,by rw[p1.o],a2.o,hom'.weak (by omega)⟩
structure Turns (w w':World) (S:Nat→Prop):Prop where
 os:w'.os=w.os
 tape:w'.tape=w.tape
 output:w'.output=w.output
 size:w.heap.size≤w'.heap.size
 block:∀ b,b<w.heap.size→¬ S b→w'.heap[b]?=w.heap[b]?
 soft:Go.Proofs.YtencnahjgbdeoaaGreatDoor.Soft w w'
section
variable {w w' w'':World} {S:Nat→Prop} {b:Nat}
theorem Turns.refl (w:World) (S:Nat→Prop):Turns w w S:=⟨rfl,rfl,rfl,aEa _,fun _ _ _=>rfl,Soft.refl w⟩
theorem Turns.trans (h:Turns w w' S) (k:Turns w' w'' S):Turns w w'' S:=
 ⟨k.os.trans h.os,k.tape.trans h.tape,k.output.trans h.output,aEg h.size k.size,fun b hb hs=>(k.block b (aEt hb h.size) hs).trans (h.block b hb hs),h.soft.trans k.soft⟩
theorem Turns.of (h:Below w.heap.size w w'):Turns w w' S:=⟨h.os,h.tape,h.output,h.size,fun b hb _=>h.block b hb,aJw h⟩
abbrev aLk:=@Turns.of
theorem Turns.set {p:Nat} (hb:S b) (hs:Go.Proofs.YtencnahjgbdeoaaGreatDoor.Soft w (aN w b p cs)):Turns w (aN w b p cs) S:=by
 have h:=bS (p:=p) (cs:=cs) (aEy b) (aDy 0 w);exact⟨h.os,h.tape,h.output,hs.1,fun c _ hn=>sY (fun e=>hn (by rw[e];exact hb)),hs⟩
theorem Turns.below (h:Turns w w' S) (hB:B≤w.heap.size) (hS:∀ b,S b→B≤b):Below B w w':=
 ⟨h.os,h.tape,h.output,h.size,fun i hi=>h.block i (by omega) (fun hs=>by have:=hS i hs;omega)⟩
theorem CB.turns {t:TypeId} {arr:Array Value} (h:CB w b t arr) (ht:Turns w w' S) (hb:¬ S b):CB w' b t arr:=(ht.block b h.lt hb).trans h
end
theorem TP {P:Program} {fn:Func} {R:Ending→World→Prop} {a:Act} (hr:fn.results=#[]) (hd:a.defers=[]) (hR:R (.returned (.tuple #[])) w):bodyPost P fn R .normal a w:=
 bodyPost_end (by simp[results,hr]) hd hR
def uY (X:Nat) (v:Value):Prop:=∀ a n c,v=.slice (some a) n c→0<n→a.block≠X
theorem NewC.not {X:Nat} (h:NewC Z v) (hX:X<Z):uY X v:=fun a n c e h0=>by have:=h a n c e h0;omega
theorem RVn.step {w':World} (h:RVn Z w w.heap.size v q) (hb:Below w.heap.size w w'):RVn Z w' w'.heap.size v q:=⟨aHm h.1 hb,h.2⟩
theorem RVn.weak {Z':Nat} (h:RVn Z w B v q) (hZ:Z'≤Z):RVn Z' w B v q:=⟨h.1,fun c0 c1 c2 e=>⟨(h.2 c0 c1 c2 e).1.weak hZ,(h.2 c0 c1 c2 e).2.weak hZ⟩⟩
theorem RVn.opened (h:RVn Z w B v q):∃ n A l c A' l' c',v=.agg #[.bool n,.slice A l c,.slice A' l' c']∧RV w B (.agg #[.bool n,.slice A l c,.slice A' l' c']) q∧NewC Z (.slice A l c)∧NewC Z (.slice A' l' c'):=by
 obtain⟨⟨n,A,l,c,A',l',c',rfl,h1⟩,h2⟩:=h;exact⟨n,A,l,c,A',l',c',rfl,⟨_,_,_,_,_,_,_,rfl,h1⟩,h2 _ _ _ rfl⟩
def ERo (V:Option Nat):Elem Rat:=fun w B cs q=>∃ c0 c1 c2,cs=[c0,c1,c2]∧RV w B (.agg #[c0,c1,c2]) q∧∀ X,V=some X→uY X c1∧uY X c2
theorem ERo.er (h:ERo V w B cs q):ER w B cs q:=let ⟨c0,c1,c2,e,h,_⟩:=h;⟨c0,c1,c2,e,h⟩
theorem ERo.stable:Elem.Stable (ERo V):=
 ⟨fun⟨c0,c1,c2,e,h,hn⟩ hb=>by obtain⟨c0',c1',c2',e',h'⟩:=aEw.below ⟨c0,c1,c2,e,h⟩ hb;exact⟨c0',c1',c2',e',h',by rw[e] at e';simp at e';obtain⟨rfl,rfl,rfl⟩:=e';exact hn⟩,
  fun⟨c0,c1,c2,e,h,hn⟩ hB=>by obtain⟨c0',c1',c2',e',h'⟩:=aEw.more ⟨c0,c1,c2,e,h⟩ hB;exact⟨c0',c1',c2',e',h',by rw[e] at e';simp at e';obtain⟨rfl,rfl,rfl⟩:=e';exact hn⟩⟩
abbrev aIk:=@ERo.stable
theorem ERo.soft:Elem.Soft (ERo V):=fun⟨c0,c1,c2,e,h,hn⟩ hs=>⟨c0,c1,c2,e,RV.soft h hs,hn⟩
theorem ERo.free:Elem.Free (ERo V):=fun h v hv=>ER.free h.er v hv
theorem ERo.ofNone (h:ER w B cs q):ERo Option.none w B cs q:=let ⟨c0,c1,c2,e,h⟩:=h;⟨c0,c1,c2,e,h,fun X hX=>by cases hX⟩
theorem ERo.ofSome {X:Nat} (h:ER w B cs q) (hX:B≤X):ERo (Option.some X) w B cs q:=by
 obtain⟨c0,c1,c2,e,n,A,l,c,A',l',c',e',h1,h2,h3⟩:=h;injection e' with e'
 simp at e'
 obtain⟨rfl,rfl,rfl⟩:=e';refine⟨_,_,_,e,⟨_,_,_,_,_,_,_,rfl,h1,h2,h3⟩,fun Y hY=>?_⟩;injection hY with hY
 subst hY;have key:∀ {A:Option Addr} {l c:Nat} {d:List Nat},RN w B (.slice A l c) d→uY X (.slice A l c):=by
  intro A l c d h a n c' e h0;obtain⟨A1,c1,e1,-,-,h5⟩:=h;injection e with e2 e3 e4
  injection e1 with e5 e6 e7
  obtain⟨g,off,hA,hg,-⟩:=h5 (by rw[← e6,e3];exact h0);rw[← e5,e2] at hA;injection hA with hA
  rw[hA]
  show g≠X
  omega
 exact⟨key h1,key h2⟩
def PI (M:List (List Rat)) (i k:Nat) (x:Rat):List (List Rat):=M.set i ((M.getD i []).set k x)
section
variable {T TH:TypeId} {w w':World} {B tb R:Nat} {G C:Nat→Nat} {M:List (List Rat)} {m i k:Nat} {x:Rat}
theorem OM.ofEq {E:Elem Rat} {M':List (List Rat)} (h:OM 3 E T TH w B tb R G C M) (e:M=M'):OM 3 E T TH w B tb R G C M':=e▸h
theorem OM.mapE {E E':Elem Rat} (h:OM 3 E T TH w B tb R G C M) (hE:∀ cs a,E w w.heap.size cs a→E' w w.heap.size cs a):OM 3 E' T TH w B tb R G C M:=
 ⟨h.hdr,h.cap,h.inj,h.apart,h.low,fun i hi=>by
  obtain⟨arr,h1,h2,h3,h4⟩:=h.rows i hi;exact⟨arr,h1,h2,h3,fun j hj=>let ⟨cs,e1,e2,e3⟩:=h4 j hj;⟨cs,e1,e2,hE _ _ e3⟩⟩⟩
theorem OM.head {E:Elem Rat} (h:OM 3 E T TH w B tb R G C M) (hW:Wide M m) (hi:i<M.length):w.cell? ⟨tb,i,none⟩=some (.slice (some ⟨G i,0,none⟩) m (C i)):=by
 have:=h.cell i hi
 rwa [hW _ (aEc hi)] at this
abbrev aMn:=@OM.head
theorem OM.caps {E:Elem Rat} (h:OM 3 E T TH w B tb R G C M) (hW:Wide M m) (hi:i<M.length):m≤C i∧C i≤9223372036854775807:=by
 have:=h.cap i hi
 rwa [hW _ (aEc hi)] at this
abbrev aMi:=@OM.caps
theorem OM.elem (h:OM 3 (ERo V) T TH w B tb R G C M) (hW:Wide M m) (hi:i<M.length) (hk:k<m) :
  ∃ xn xA xl xc xB xu xd,E3 w (G i) (k*3) (.bool xn) (.slice xA xl xc) (.slice xB xu xd)∧RV w w.heap.size (.agg #[.bool xn,.slice xA xl xc,.slice xB xu xd]) (bP M i k):=by
 have hk':k<M[i].length:=by rw[hW _ (aEc hi)];exact hk
 obtain⟨cs,-,h2,x0,x1,x2,rfl,⟨xn,xA,xl,xc,xB,xu,xd,e,h3⟩,-⟩:=(h.rows i hi).at k hk';injection e with e
 simp at e
 obtain⟨rfl,rfl,rfl⟩:=e;exact⟨xn,xA,xl,xc,xB,xu,xd,E3.of h2,_,_,_,_,_,_,_,rfl,by rw[aBo hi hk'];exact h3⟩
theorem OM.rowlt {E:Elem Rat} (h:OM 3 E T TH w B tb R G C M) (hi:i<M.length):G i<w.heap.size:=(h.rows i hi).lt
theorem OM.rowfz {E:Elem Rat} (h:OM 3 E T TH w B tb R G C M) (hi:i<M.length) (p:Nat):w.frozen? ⟨G i,p,none⟩=false:=(h.rows i hi).frozen p
theorem OM.put {S:Nat→Prop} (h:OM 3 (ERo V) T TH w B tb R G C M) (hW:Wide M m) (hi:i<M.length) (hk:k<m) (hS:S (G i)) {n:Bool} {A A':Option Addr} {l c l' c':Nat} (hx:RV w w.heap.size (.agg #[.bool n,.slice A l c,.slice A' l' c']) x) (hf:NewC Z (.slice A l c)∧NewC Z (.slice A' l' c')) (hV:∀ X,V=some X→X<Z) :
  OM 3 (ERo V) T TH (aN w (G i) (k*3) [.bool n,.slice A l c,.slice A' l' c']) B tb R G C (PI M i k x)∧Turns w (aN w (G i) (k*3) [.bool n,.slice A l c,.slice A' l' c']) S:=by
 have hk':k<M[i].length:=by rw[hW _ (aEc hi)];exact hk
 obtain⟨h1,h2⟩:=h.set ERo.soft ERo.free i k hi hk' (cs:=[.bool n,.slice A l c,.slice A' l' c']) (x:=x) rfl ⟨_,_,_,rfl,hx,fun X hX=>⟨hf.1.not (hV X hX),hf.2.not (hV X hX)⟩⟩;refine⟨?_,Turns.set hS h2⟩;unfold PI;rw[aG hi];exact h1
theorem nH (hW:Wide M m) (hr:r.length=m):Wide (M.set i r) m:=hW.set hr
theorem nO (hi:i<M.length):(M.set i r).getD i []=r:=by
 rw[aEi,List.getElem?_set_self hi];rfl
theorem getD_set_ne {i':Nat} (h:i≠i'):(M.set i r).getD i' []=M.getD i' []:=by
 rw[aEi,List.getElem?_set_ne h,← aEi]
theorem ID {r':List Rat}:(M.set i r).set i r'=M.set i r':=by rw[List.set_set]
theorem DI {f:Nat→Rat→Rat} (hi:i<M.length) (hk:k<r.length):PI (M.set i (mapTo f k r)) i k (f k (r.getD k 0))=M.set i (mapTo f (k+1) r):=by
 unfold PI;rw[nO hi,ID,aG hk,oK hk]
theorem OW {f:Nat→Rat→Rat} (hi:i<M.length) (hk:k<r.length):bP (M.set i (mapTo f k r)) i k=r.getD k 0:=by
 unfold bP;rw[nO hi,aG (by rw[eK];exact hk),gE hk,aEu (aJt k),aG hk]
theorem TQ {i':Nat} (h:i≠i'):bP (M.set i r) i' k=bP M i' k:=by unfold bP;rw[getD_set_ne h]
theorem mH {g:Nat→List Rat→List Rat} {n:Nat} (h:i<M.length) (hg:¬ i<n∨g i (M.getD i [])=M.getD i []):(mapTo g n M).getD i []=M.getD i []:=by
 rw[aG (by rw[eK];exact h),gE h,aG h]
 split
 ·rcases hg with hg | hg
  ·contradiction
  ·rw[aG h] at hg;exact hg
 ·rfl
theorem wM {g:Nat→List Rat→List Rat} {n:Nat} (hW:Wide M m) (hg:∀ i (r:List Rat),r.length=m→(g i r).length=m):Wide (mapTo g n M) m:=by
 intro r hr;obtain⟨i,hi,rfl⟩:=aKq hr;rw[eK] at hi;rw[gE hi]
 split
 ·exact hg _ _ (hW _ (aEc hi))
 ·exact hW _ (aEc hi)
theorem RV.whole {w:World} {B':Nat} {n:Bool} {A A':Option Addr} {l c l' c':Nat} (h:RV w B' (.agg #[.bool n,.slice A l c,.slice A' l' c']) q):WV w B' (.agg #[.bool n,.slice A l c]) q.num:=by
 obtain⟨n',A1,l1,c1,A2,l2,c2,e,h1,h2,h3⟩:=h;injection e with e
 simp at e
 obtain⟨rfl,⟨rfl,rfl,rfl⟩,rfl,rfl,rfl⟩:=e;exact WV.mk h1 h3
end
end Go.Proofs.YtencnahjgbdeoaaGreatDoor
