/- A region that draws, by facts, with a load that may come behind the first of the stores: the world's old blocks stand through them. -/
import Derived.Test.YtkhljkiehohckaaGreatDoorQa
namespace Go.Proofs.YtkhljkiehohckaaGreatDoor
open Go Go.RowKit
section
variable {P:Program} {ops:Array Oper} {Q:Exit→Act→World→Prop} {md:Region.Mode} {S:World→Prop} {t:Nat}
def lateB (md:Region.Mode) (ops:Array Oper) (t i:Nat):Bool:=(List.range ops.size).all fun j=>decide (j<t)||reachB md ops 4 j i
theorem Early.first {i:Nat} {oi:Oper} {v:Value} (hi:ops[i]?=some oi) (hsel:∀ (j:Nat) (o:Oper) cs b,ops[j]?=some o→o.op≠.select cs b)
    (hl:lateB md ops t i=true) (hQ:∀ c a w,Q (.panic c) (a.put oi.dst v) w→Q (.panic c) a w) :
    ∀ (f:Nat) (listed:Array Bool) (a:Act) (w:World),
      (∀ j oj,ops[j]?=some oj→j≠i→listed.getD j true=false→(∀ e∈oj.after,Region.binds md e=true→e.on≠i)→oi.apart ops oj=true) →
      Closed md ops listed→i∈Region.ready md ops listed→YieldsIf P ops S oi v a→S w →
      Early P md ops Q S t f (listed.setIfInBounds i true) (a.put oi.dst v) w→Early P md ops Q S t (f+1) listed a w:=by
  intro f
  induction f with
  | zero=>
    intro listed a w _ _ hr hy hS H;refine⟨fun h=>absurd hr (by rw[h];simp),fun j hj=>?_⟩;by_cases hji:j=i
    · subst hji;exact hy.wpOp hi hS ⟨fun _=>hS,H⟩
    · exact absurd (ready_mono hj hji) (by rw[H.1];simp)
  | succ f ih=>
    intro listed a w hfree hcl hr hy hS H;refine⟨fun h=>absurd hr (by rw[h];simp),fun j hj=>?_⟩;by_cases hji:j=i
    · subst hji;exact hy.wpOp hi hS ⟨fun _=>hS,H⟩
    · obtain⟨hjun,oj,hoj,hall⟩:=mem_ready.1 hj
      have hnot:∀ e∈oj.after,Region.binds md e=true→e.on≠i:=by
        intro e he hb heq;have h1:=hall e he hb;have h0:=(mem_ready.1 hr).1;rw[heq] at h1;by_cases hs:i<listed.size
        · simp[hs] at h0 h1;rw[h0] at h1;cases h1
        · simp[Array.getElem?_eq_none (Nat.le_of_not_lt hs)] at h1
      obtain⟨hjs,-⟩:=Array.getElem?_eq_some_iff.1 hoj;have hjt:j<t:=by
        rcases Bool.or_eq_true_iff.1 (List.all_eq_true.1 hl j (List.mem_range.2 hjs)) with h2 | h2
        · simpa using h2
        · have h3:=hcl.reach 4 j h2 fun oj' ho' e he hb=>by
            rw[hoj] at ho';injection ho' with ho'
            subst ho';exact hall e he hb
          rw[getD_two (mem_ready.1 hr).1] at h3;cases h3
      have h2:=wpOp_putIf hoj (hfree j oj hoj hji hjun hnot) (fun cs b=>hsel i oi cs b hi) (fun cs b=>hsel j oj cs b hoj) hQ hy (H.2 j (ready_mono hj hji));refine wpOp_mono (fun a' w' k=>?_) h2;have hSw:=k.2.1 hjt;refine⟨fun _=>hSw,ih (listed.setIfInBounds j true) a' w' ?_ (hcl.set hj) (ready_mono hr (Ne.symm hji)) k.1 hSw ?_⟩
      · intro m om hom hmi hun hno
        refine hfree m om hom hmi ?_ hno;by_cases hjm:j=m
        · subst hjm;exact hjun
        · rwa [getD_set_ne true hjm] at hun
      · rw[Array.setIfInBounds_comm _ _ hji]
        exact k.2.2
end
section
variable {P:Program} {ops:Array Oper} {Q:Exit→Act→World→Prop} {md:Region.Mode}
def optS (md:Region.Mode) (ops:Array Oper) (E:List Nat) (o:Nat):Bool:=
  match ops[o]? with
  | none=>false
  | some oi=>(List.range ops.size).all fun j=>E.contains j||j==o||Region.waitsFor md ops o j||Region.waitsFor md ops j o||match ops[j]? with
    | some oj=>oi.apart ops oj
    | none=>true
def flowBS (md:Region.Mode) (ops:Array Oper) (D:List (Nat × Tmp)) (E:List Nat):Bool:=
  Region.noSelect ops&&topoB md ops [] D&&((List.range ops.size).all fun j=>(D.any fun p=>p.1==j)||E.all fun e=>reachB md ops 5 j e)&&D.all fun p=>E.contains p.1||optS md ops E p.1
def flowCS (md:Region.Mode) (ops:Array Oper) (D:List (Nat × Tmp)) (E N:List Nat) (f0:Nat):Bool:=
  decide (D.map (·.1)).Nodup&&decide (D.map (·.2)).Nodup&&flowBS md ops D E&&(N.all fun i=>D.any fun p=>p.1==i)&&f0+D.length==ops.size&&E.all fun i=>D.any fun p=>p.1==i
theorem flow_opt {S:World→Prop} {t:Nat} {D:List (Nat × Tmp)} {E N:List Nat} {F:Nat→Value→World→Prop} {a0:Act} {w0:World} {f0:Nat}
    (h1:(D.map (·.1)).Nodup) (h2:(D.map (·.2)).Nodup) (hB:flowBS md ops D E=true) (hN:∀ i∈N,∃ p∈D,p.1=i)
    (hQ:∀ c a (d:Tmp) v w,Q (.panic c) (a.put (some d) v) w→Q (.panic c) a w)
    (hF:∀ i v w w',F i v w→Below w.heap.size w w'→F i v w')
    (hopt:∀ p∈D,p.1∉E→p.1∉N∧∀ xs w,Below w0.heap.size w0 w→(∀ q∈D,Region.waitsFor md ops p.1 q.1=true→F q.1 (xs q.1) w)→∃ o v,ops[p.1]?=some o∧YieldsIf P ops S o v (putAll a0 xs D)∧F p.1 v w)
    (hfin:∀ xs w,Below w0.heap.size w0 w→(∀ p∈D,F p.1 (xs p.1) w)→(∀ i∈N,Fresh w0 w (xs i))→(∀ i∈N,∀ j∈N,i≠j→xs i≠xs j)→Early P md ops Q S t f0 (fullL ops D) (putAll a0 xs D) w)
    (hlate:(D.all fun p=>E.contains p.1||lateB md ops t p.1)=true) (hSt:∀ w,Below w0.heap.size w0 w→S w) :
    ∀ (m:Nat) (listed:Array Bool) (a:Act) (w:World),leftN listed D=m→OnWay md ops D N F a0 w0 listed a w→(∀ e∈E,listed.getD e false=true)→Early P md ops Q S t (f0+m) listed a w:=by
  obtain⟨hB,hO⟩:=Bool.and_eq_true_iff.1 hB;obtain⟨hB,hL⟩:=Bool.and_eq_true_iff.1 hB;obtain⟨hS,hT⟩:=Bool.and_eq_true_iff.1 hB;intro m
  induction m with
  | zero=>
    intro listed a w hm hw hE;obtain⟨⟨xs,rfl,x1,x2,x3⟩,hb,ho,hs,hc⟩:=hw;have hall:∀ p∈D,listed.getD p.1 false=true:=fun p hp=>by
      have h0:=List.countP_eq_zero.1 hm p hp
      simpa using h0
    have hN':∀ i∈N,listed.getD i false=true:=fun i hi=>by obtain⟨p,hp,rfl⟩:=hN i hi;exact hall p hp
    rw[full_of hall ho hs];exact hfin xs w hb (fun p hp=>x1 p hp (hall p hp)) (fun i hi=>x2 i hi (hN' i hi)) (fun i hi j hj hne=>x3 i hi j hj hne (hN' i hi) (hN' j hj))
  | succ m ih=>
    intro listed a w hm hw hE;obtain⟨⟨xs,rfl,hx⟩,hb,ho,hs,hc⟩:=hw;have hex:∃ p∈D,listed.getD p.1 false=false:=by
      have h0:0<leftN listed D:=by omega
      obtain⟨p,hp,h⟩:=List.countP_pos_iff.1 h0;exact⟨p,hp,by simpa using h⟩
    have size_of:∀ {p:Nat × Tmp},p∈D→p.1<listed.size:=fun {p} hp=>by
      obtain⟨o,ho',-⟩:=topo_dst hT p hp;obtain⟨h,-⟩:=Array.getElem?_eq_some_iff.1 ho';rw[hs];exact h
    have untrue:∀ {i:Nat},i<listed.size→listed.getD i false=false→listed.getD i true=false:=fun {i} hi h=>by
      simp[hi] at h ⊢;exact h
    have deps:∀ {p:Nat × Tmp},p.1∈Region.ready md ops listed→∀ q∈D,Region.waitsFor md ops p.1 q.1=true→F q.1 (xs q.1) w:=fun {p} hr q hq hwt=>by
      obtain⟨-,oj,hoj,hall⟩:=mem_ready.1 hr;obtain⟨oj',hoj',e,he,hbd,hon⟩:=Region.waitsFor_spec hwt;rw[hoj] at hoj';injection hoj' with hoj';subst hoj'
      exact hx.1 q hq (hon▸hall e he hbd)
    obtain⟨p,hp,hu,oi,hoi,hall⟩:=topo_ready hT (fun _ h=>by cases h) hex;have hpE:p.1∉E:=fun h=>by rw[hE _ h] at hu;cases hu
    have hob:optS md ops E p.1=true:=by
      have h0:=List.all_eq_true.1 hO p hp;rcases Bool.or_eq_true_iff.1 h0 with h0 | h0
      · exact absurd (by simpa using h0) hpE
      · exact h0
    have hlt:lateB md ops t p.1=true:=by
      rcases Bool.or_eq_true_iff.1 (List.all_eq_true.1 hlate p hp) with h0 | h0
      · exact absurd (by simpa using h0) hpE
      · exact h0
    obtain⟨hpN,hopt⟩:=hopt p hp hpE;have hdst:oi.dst=some p.2:=by obtain⟨o2,ho2,hd2⟩:=topo_dst hT p hp;rw[hoi] at ho2;injection ho2 with ho2;rw[ho2];exact hd2
    unfold optS at hob;rw[hoi] at hob;have hj:=hob;have hr:p.1∈Region.ready md ops listed:=mem_ready.2 ⟨untrue (size_of hp) hu,oi,hoi,hall⟩;obtain⟨o,v,ho1,hy,hf⟩:=hopt xs w hb (deps hr);rw[hoi] at ho1;injection ho1 with ho1;subst ho1
    refine Early.first hoi (Region.noSelect_spec hS) hlt (fun c a w h=>hQ c a p.2 v w (hdst▸h)) (f0+m) listed _ w ?_ hc hr hy (hSt _ hb) ?_
    · intro j oj hoj hne hun hno
      obtain⟨hjs,-⟩:=Array.getElem?_eq_some_iff.1 hoj;have h5:=List.all_eq_true.1 hj j (List.mem_range.2 hjs);rw[hoj] at h5;rcases Bool.or_eq_true_iff.1 h5 with h5 | h5
      · rcases Bool.or_eq_true_iff.1 h5 with h5 | h5
        · rcases Bool.or_eq_true_iff.1 h5 with h5 | h5
          · rcases Bool.or_eq_true_iff.1 h5 with h5 | h5
            · have:=hE j (by simpa using h5)
              rw[getD_two hun] at this;cases this
            · exact absurd (by simpa using h5) hne
          · obtain⟨oi',hoi',e,he,hbd,hon⟩:=Region.waitsFor_spec h5
            rw[hoi] at hoi';injection hoi' with hoi';subst hoi'
            have:=hall e he hbd;rw[hon,getD_two hun] at this;cases this
        · obtain⟨oj',hoj',e,he,hbd,hon⟩:=Region.waitsFor_spec h5
          rw[hoj] at hoj';injection hoj' with hoj';subst hoj'
          exact absurd hon (hno e he hbd)
      · exact h5
    · refine ih _ _ _ ?_ (hdst▸OnWay.put h1 h2 hF hp hr hx hb ho hs hc (Below.refl _ _) hf (fun h=>absurd h hpN)) (fun e he=>getD_up (hE e he))
      have:=leftN_set (size_of hp) hu h1 ⟨p,hp,rfl⟩
      omega
theorem flow_anyS {S:World→Prop} {t:Nat} {D:List (Nat × Tmp)} {E N:List Nat} {F:Nat→Value→World→Prop} {a0:Act} {w0:World} {f0:Nat}
    (h1:(D.map (·.1)).Nodup) (h2:(D.map (·.2)).Nodup) (hB:flowBS md ops D E=true) (hN:∀ i∈N,∃ p∈D,p.1=i)
    (hQ:∀ c a (d:Tmp) v w,Q (.panic c) (a.put (some d) v) w→Q (.panic c) a w)
    (hF:∀ i v w w',F i v w→Below w.heap.size w w'→F i v w')
    (hop:∀ p∈D,∀ xs w,Below w0.heap.size w0 w→(∀ q∈D,Region.waitsFor md ops p.1 q.1=true→F q.1 (xs q.1) w) →
      wpOp P ops Q p.1 (fun a' w'=>∃ v,a'=(putAll a0 xs D).put (some p.2) v∧Below w.heap.size w w'∧F p.1 v w'∧(p.1∈N→Fresh w w' v)) (putAll a0 xs D) w)
    (hopt:∀ p∈D,p.1∉E→p.1∉N∧∀ xs w,Below w0.heap.size w0 w→(∀ q∈D,Region.waitsFor md ops p.1 q.1=true→F q.1 (xs q.1) w)→∃ o v,ops[p.1]?=some o∧YieldsIf P ops S o v (putAll a0 xs D)∧F p.1 v w)
    (hfin:∀ xs w,Below w0.heap.size w0 w→(∀ p∈D,F p.1 (xs p.1) w)→(∀ i∈N,Fresh w0 w (xs i))→(∀ i∈N,∀ j∈N,i≠j→xs i≠xs j)→Early P md ops Q S t f0 (fullL ops D) (putAll a0 xs D) w)
    (hlate:(D.all fun p=>E.contains p.1||lateB md ops t p.1)=true) (hSt:∀ w,Below w0.heap.size w0 w→S w) :
    ∀ (m:Nat) (listed:Array Bool) (a:Act) (w:World),leftN listed D=m→OnWay md ops D N F a0 w0 listed a w→wpAny P md ops Q (f0+m) listed a w:=by
  have hopt0:=flow_opt h1 h2 hB hN hQ hF hopt hfin hlate hSt;obtain⟨hB,hO⟩:=Bool.and_eq_true_iff.1 hB;obtain⟨hB,hL⟩:=Bool.and_eq_true_iff.1 hB;obtain⟨hS,hT⟩:=Bool.and_eq_true_iff.1 hB;intro m
  induction m with
  | zero=>
    intro listed a w hm hw;obtain⟨⟨xs,rfl,x1,x2,x3⟩,hb,ho,hs,hc⟩:=hw;have hall:∀ p∈D,listed.getD p.1 false=true:=fun p hp=>by
      have h0:=List.countP_eq_zero.1 hm p hp
      simpa using h0
    have hN':∀ i∈N,listed.getD i false=true:=fun i hi=>by obtain⟨p,hp,rfl⟩:=hN i hi;exact hall p hp
    rw[full_of hall ho hs];exact Early.any _ _ _ _ <| hfin xs w hb (fun p hp=>x1 p hp (hall p hp)) (fun i hi=>x2 i hi (hN' i hi)) (fun i hi j hj hne=>x3 i hi j hj hne (hN' i hi) (hN' j hj))
  | succ m ih=>
    intro listed a w hm hw;obtain⟨⟨xs,rfl,hx⟩,hb,ho,hs,hc⟩:=hw;have hex:∃ p∈D,listed.getD p.1 false=false:=by
      have h0:0<leftN listed D:=by omega
      obtain⟨p,hp,h⟩:=List.countP_pos_iff.1 h0;exact⟨p,hp,by simpa using h⟩
    have size_of:∀ {p:Nat × Tmp},p∈D→p.1<listed.size:=fun {p} hp=>by
      obtain⟨o,ho',-⟩:=topo_dst hT p hp;obtain⟨h,-⟩:=Array.getElem?_eq_some_iff.1 ho';rw[hs];exact h
    have untrue:∀ {i:Nat},i<listed.size→listed.getD i false=false→listed.getD i true=false:=fun {i} hi h=>by
      simp[hi] at h ⊢;exact h
    have deps:∀ {p:Nat × Tmp},p.1∈Region.ready md ops listed→∀ q∈D,Region.waitsFor md ops p.1 q.1=true→F q.1 (xs q.1) w:=fun {p} hr q hq hwt=>by
      obtain⟨-,oj,hoj,hall⟩:=mem_ready.1 hr;obtain⟨oj',hoj',e,he,hbd,hon⟩:=Region.waitsFor_spec hwt;rw[hoj] at hoj';injection hoj' with hoj';subst hoj'
      exact hx.1 q hq (hon▸hall e he hbd)
    by_cases hE:∀ e∈E,listed.getD e false=true
    · exact Early.any _ _ _ _ (hopt0 (m+1) listed _ w hm ⟨⟨xs,rfl,hx⟩,hb,ho,hs,hc⟩ hE)
    · show wpAny P md ops Q (f0+m+1) listed _ w
      refine⟨fun h0=>?_,fun i hi=>?_⟩
      · obtain⟨p,hp,hu,o,ho1,hall⟩:=topo_ready hT (fun _ h=>by cases h) hex
        have hr:p.1∈Region.ready md ops listed:=mem_ready.2 ⟨untrue (size_of hp) hu,o,ho1,hall⟩;rw[h0] at hr;cases hr
      · have hD:∃ p∈D,p.1=i:=by
          refine Classical.byContradiction fun hno=>hE fun e he=>?_
          obtain⟨hjun,oj,hoj,hall⟩:=mem_ready.1 hi;obtain⟨hjs,-⟩:=Array.getElem?_eq_some_iff.1 hoj;have h5:=List.all_eq_true.1 hL i (List.mem_range.2 hjs);rcases Bool.or_eq_true_iff.1 h5 with h5 | h5
          · obtain⟨p,hp,h6⟩:=List.any_eq_true.1 h5
            exact absurd ⟨p,hp,by simpa using h6⟩ hno
          · exact hc.reach 5 i (List.all_eq_true.1 h5 e he) fun oj' ho' e he hb=>by
              rw[hoj] at ho';injection ho' with ho';subst ho'
              exact hall e he hb
        obtain⟨p,hp,rfl⟩:=hD;refine wpOp_mono (fun a' w' h=>?_) (hop p hp xs w hb (deps hi));obtain⟨v,rfl,hbw,hf,hn⟩:=h;refine ih _ _ _ ?_ (OnWay.put h1 h2 hF hp hi hx hb ho hs hc hbw hf hn);have:=leftN_set (size_of hp) (getD_two (mem_ready.1 hi).1) h1 ⟨p,hp,rfl⟩
        omega
theorem Flow.startS {t:Nat} {id:Nat} {D:List (Nat × Tmp)} {a0:Act} {w:World} (E N:List Nat) (F:Nat→Value→World→Prop) (f0:Nat) (hm:P.follows .mixedOrders=true) (hf0:f0+D.length=ops.size)
    (h1:(D.map (·.1)).Nodup) (h2:(D.map (·.2)).Nodup) (hB:flowBS .any ops D E=true) (hN:∀ i∈N,∃ p∈D,p.1=i)
    (hQ:∀ c a (d:Tmp) v w,Q (.panic c) (a.put (some d) v) w→Q (.panic c) a w)
    (hF:∀ i v w w',F i v w→Below w.heap.size w w'→F i v w')
    (hop:∀ p∈D,∀ xs w',Below w.heap.size w w'→(∀ q∈D,Region.waitsFor .any ops p.1 q.1=true→F q.1 (xs q.1) w') →
      wpOp P ops Q p.1 (fun a' w''=>∃ v,a'=(putAll a0 xs D).put (some p.2) v∧Below w'.heap.size w' w''∧F p.1 v w''∧(p.1∈N→Fresh w' w'' v)) (putAll a0 xs D) w')
    (hopt:∀ p∈D,p.1∉E→p.1∉N∧∀ xs w',Below w.heap.size w w'→(∀ q∈D,Region.waitsFor .any ops p.1 q.1=true→F q.1 (xs q.1) w')→∃ o v,ops[p.1]?=some o∧YieldsIf P ops (fun w'=>Below w.heap.size w w') o v (putAll a0 xs D)∧F p.1 v w')
    (hfin:∀ xs w',Below w.heap.size w w'→(∀ p∈D,F p.1 (xs p.1) w')→(∀ i∈N,Fresh w w' (xs i))→(∀ i∈N,∀ j∈N,i≠j→xs i≠xs j)→Early P .any ops Q (fun w'=>Below w.heap.size w w') t f0 (fullL ops D) (putAll a0 xs D) w')
    (hlate:(D.all fun p=>E.contains p.1||lateB .any ops t p.1)=true) :
    (Code.region id ops true).wp P Q a0 w:=by
  have hd:∀ {w':World},Below w.drew.heap.size w.drew w'→Below w.heap.size w w':=fun h=>⟨h.os,h.tape,h.output,h.size,h.block⟩
  refine wp_region_any hm ?_;rw[← hf0];obtain⟨xs,hxs⟩:=xs_start (fun t=>a0.tmps.getD t undef) h1;have hnone:∀ j,(Array.replicate (f0+D.length) false).getD j false=false:=fun j=>by simp[Array.getD]
  refine flow_anyS (S:=fun w'=>Below w.heap.size w w') (t:=t) (w0:=w.drew) (f0:=f0) h1 h2 hB hN hQ hF (fun p hp xs w' hb=>hop p hp xs w' (hd hb)) (fun p hp hE=>⟨(hopt p hp hE).1,fun xs w' hb=>(hopt p hp hE).2 xs w' (hd hb)⟩)
    (fun xs w' hb k1 k2 k3=>hfin xs w' (hd hb) k1 k2 k3) hlate (fun w' hb=>hd hb) D.length _ a0 w.drew ?_ ⟨⟨xs,(putAll_start hxs).symm,fun p _ h=>?_,fun i _ h=>?_,fun i _ j _ _ h=>?_⟩,Below.refl _ _,fun j _=>hnone j,by rw[Array.size_replicate,hf0],fun j oj _ h=>?_⟩
  · unfold leftN
    rw[List.countP_eq_length];intro p _;rw[hnone];rfl
  all_goals (rw[hnone] at h;cases h)
theorem Flow.runS {id:Nat} {a0:Act} {w:World} (L1 L2:List FOp) (N:List Nat) (f0 t:Nat) (hm:P.follows .mixedOrders=true)
    (hC:flowCS .any ops (fpairs (L1++L2)) (L1.map (·.i)) N f0=true) (hNo:(L2.all fun o=>!N.contains o.i)=true)
    (hQ:∀ c a (d:Tmp) v w,Q (.panic c) (a.put (some d) v) w→Q (.panic c) a w)
    (hF:∀ o∈L1++L2,∀ v w w',o.F v w→Below w.heap.size w w'→o.F v w')
    (hop:∀ o∈L1,∀ xs w',Below w.heap.size w w'→(∀ q∈L1++L2,Region.waitsFor .any ops o.i q.i=true→q.F (xs q.i) w') →
      wpOp P ops Q o.i (fun a' w''=>∃ v,a'=(putAll a0 xs (fpairs (L1++L2))).put (some o.d) v∧Below w'.heap.size w' w''∧o.F v w''∧(N.contains o.i=true→Fresh w' w'' v)) (putAll a0 xs (fpairs (L1++L2))) w')
    (hopt:∀ o∈L2,∀ xs w',Below w.heap.size w w'→(∀ q∈L1++L2,Region.waitsFor .any ops o.i q.i=true→q.F (xs q.i) w')→∃ op v,ops[o.i]?=some op∧YieldsIf P ops (fun w'=>Below w.heap.size w w') op v (putAll a0 xs (fpairs (L1++L2)))∧o.F v w')
    (hfin:∀ xs w',Below w.heap.size w w'→(∀ o∈L1++L2,o.F (xs o.i) w')→(∀ i∈N,Fresh w w' (xs i))→(∀ i∈N,∀ j∈N,i≠j→xs i≠xs j) →
      Early P .any ops Q (fun w'=>Below w.heap.size w w') t f0 (fullL ops (fpairs (L1++L2))) (putAll a0 xs (fpairs (L1++L2))) w')
    (hlate:((fpairs (L1++L2)).all fun p=>(L1.map (·.i)).contains p.1||lateB .any ops t p.1)=true) :
    (Code.region id ops true).wp P Q a0 w:=by
  unfold flowCS at hC;simp only[Bool.and_eq_true] at hC
  obtain⟨⟨⟨⟨⟨h1,h2⟩,hB⟩,hN⟩,hf0⟩,-⟩:=hC;replace h1:=of_decide_eq_true h1;replace h2:=of_decide_eq_true h2;have inD:∀ p∈fpairs (L1++L2),∃ o∈L1++L2,p=(o.i,o.d):=fun p hp=>by
    obtain⟨o,ho,rfl⟩:=List.mem_map.1 hp;exact⟨o,ho,rfl⟩
  have toD:∀ o∈L1++L2,(o.i,o.d)∈fpairs (L1++L2):=fun o ho=>List.mem_map.2 ⟨o,ho,rfl⟩
  have one:∀ {o:FOp},o∈L1++L2→∀ {v w},o.F v w→∀ q∈L1++L2,q.i=o.i→q.F v w:=fun {o} ho {v w} h q hq e=>by
    obtain rfl:=fop_inj h1 hq ho e;exact h
  have notN:∀ o∈L2,o.i∉N:=fun o ho h=>by
    have:=List.all_eq_true.1 hNo o ho;simp[h] at this
  have deps:∀ (i:Nat) (xs:Nat→Value) (w':World),(∀ q∈fpairs (L1++L2),Region.waitsFor .any ops i q.1=true→∀ o∈L1++L2,o.i=q.1→o.F (xs q.1) w')→∀ q∈L1++L2,Region.waitsFor .any ops i q.i=true→q.F (xs q.i) w':=
    fun i xs w' h q hq hw=>h (q.i,q.d) (toD q hq) hw q hq rfl
  refine Flow.startS (t:=t) (D:=fpairs (L1++L2)) (L1.map (·.i)) N (fun i v w=>∀ o∈L1++L2,o.i=i→o.F v w) f0 hm (by simpa using hf0) h1 h2 hB (fun i hi=>?_) hQ (fun i v w w' h hb o ho e=>hF o ho v w w' (h o ho e) hb) ?_ ?_ ?_ hlate
  · obtain⟨p,hp,e⟩:=List.any_eq_true.1 (List.all_eq_true.1 hN i hi)
    exact⟨p,hp,by simpa using e⟩
  · intro p hp xs w' hb hd
    obtain⟨o,ho,rfl⟩:=inD p hp;rcases List.mem_append.1 ho with ho1 | ho2
    · refine wpOp_mono (fun a' w'' h=>?_) (hop o ho1 xs w' hb (deps _ _ _ hd))
      obtain⟨v,e,hbw,hf,hn⟩:=h;exact⟨v,e,hbw,one ho hf,fun h=>hn (by simpa using h)⟩
    · obtain⟨op,v,h3,hy,hf⟩:=hopt o ho2 xs w' hb (deps _ _ _ hd)
      refine hy.wpOp h3 hb ⟨v,?_,Below.refl _ _,one ho hf,fun h=>absurd h (notN o ho2)⟩;obtain⟨hT,hO⟩:=Bool.and_eq_true_iff.1 (Bool.and_eq_true_iff.1 (Bool.and_eq_true_iff.1 hB).1).1;obtain⟨o',ho',hd'⟩:=topo_dst hO _ hp;rw[h3] at ho';injection ho' with ho';subst ho'
      rw[hd']
  · intro p hp hE
    obtain⟨o,ho,rfl⟩:=inD p hp;rcases List.mem_append.1 ho with ho1 | ho2
    · exact absurd (List.mem_map_of_mem ho1) hE
    · refine⟨notN o ho2,fun xs w' hb hd=>?_⟩
      obtain⟨op,v,h3,hy,hf⟩:=hopt o ho2 xs w' hb (deps _ _ _ hd);exact⟨op,v,h3,hy,one ho hf⟩
  · intro xs w' hb k1 k2 k3
    exact hfin xs w' hb (fun o ho=>k1 (o.i,o.d) (toD o ho) o ho rfl) k2 k3
end
end Go.Proofs.YtkhljkiehohckaaGreatDoor
