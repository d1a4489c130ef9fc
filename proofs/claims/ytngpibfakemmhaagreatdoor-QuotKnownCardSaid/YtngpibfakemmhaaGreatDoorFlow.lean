/- Regions that draw, by facts: what each operation leaves is told once, whatever order is picked; operations that make variables, and calls, are among them. -/
import Derived.Test.YtngpibfakemmhaaGreatDoorEarly
namespace Go.Proofs.YtngpibfakemmhaaGreatDoor
open Go Go.RowKit
section
variable {P:Program} {ops:Array Oper} {Q:Exit→Act→World→Prop} {md:Region.Mode}
def putAll (a:Act) (xs:Nat→Value):List (Nat × Tmp)→Act
  | []=>a
  | p :: D=>(putAll a xs D).put (some p.2) (xs p.1)
def upd (xs:Nat→Value) (i:Nat) (v:Value):Nat→Value:=fun j=>if j=i then v else xs j
theorem upd_self (xs:Nat→Value) (i:Nat) (v:Value):upd xs i v i=v:=if_pos rfl
theorem upd_ne {xs:Nat→Value} {i j:Nat} {v:Value} (h:j≠i):upd xs i v j=xs j:=if_neg h
theorem putAll_cong {a:Act} {xs ys:Nat→Value}:∀ {D:List (Nat × Tmp)},(∀ p∈D,xs p.1=ys p.1)→putAll a xs D=putAll a ys D
  | [],_=>rfl
  | p :: D,h=>by
    show(putAll a xs D).put _ _=(putAll a ys D).put _ _
    rw[putAll_cong (D:=D) fun q hq=>h q (List.mem_cons_of_mem _ hq),h p (List.mem_cons_self ..)]
theorem put_put (a:Act) (d:Tmp) (u v:Value):(a.put (some d) u).put (some d) v=a.put (some d) v:=by
  simp[Act.put]
theorem putAll_put {a:Act} {xs:Nat→Value} {v:Value}:∀ {D:List (Nat × Tmp)},(D.map (·.1)).Nodup→(D.map (·.2)).Nodup→∀ {p},p∈D→(putAll a xs D).put (some p.2) v=putAll a (upd xs p.1 v) D
  | [],_,_,_,h=>by cases h
  | q :: D,h1,h2,p,hp=>by
    rw[List.map_cons,List.nodup_cons] at h1 h2;have keep:∀ r∈D,r.1≠q.1:=fun r hr e=>h1.1 (e▸List.mem_map_of_mem hr)
    rcases List.mem_cons.1 hp with rfl | hp
    · show((putAll a xs D).put (some p.2) (xs p.1)).put (some p.2) v=(putAll a (upd xs p.1 v) D).put (some p.2) (upd xs p.1 v p.1)
      rw[put_put,upd_self,putAll_cong fun r hr=>(upd_ne (xs:=xs) (v:=v) (keep r hr))]
    · show((putAll a xs D).put (some q.2) (xs q.1)).put (some p.2) v=(putAll a (upd xs p.1 v) D).put (some q.2) (upd xs p.1 v q.1)
      have hne:q.2≠p.2:=fun e=>h2.1 (e▸List.mem_map_of_mem hp)
      rw[Act.put_comm _ _ _ (fun d hd e=>hne (by injection hd with hd;injection e with e;rw[hd,e])),putAll_put h1.2 h2.2 hp,upd_ne (keep p hp).symm]
theorem xs_start (f:Tmp→Value):∀ {D:List (Nat × Tmp)},(D.map (·.1)).Nodup→∃ xs:Nat→Value,∀ p∈D,xs p.1=f p.2
  | [],_=>⟨fun _=>undef,fun _ h=>by cases h⟩
  | q :: D,h=>by
    rw[List.map_cons,List.nodup_cons] at h;obtain⟨xs,hx⟩:=xs_start f h.2;refine⟨upd xs q.1 (f q.2),fun p hp=>?_⟩;rcases List.mem_cons.1 hp with rfl | hp
    · exact upd_self ..
    · have hne:p.1≠q.1:=fun e=>h.1 (e▸List.mem_map_of_mem hp)
      rw[upd_ne hne,hx p hp]
theorem put_same (a:Act) (d:Tmp):a.put (some d) (a.tmps.getD d undef)=a:=by
  cases a with
  | mk t ds=>
    simp only[Act.put,Act.mk.injEq,and_true]
    apply Array.ext
    · simp
    · intro i h1 h2
      by_cases hi:d=i
      · subst hi;simp[Array.getD,h2]
      · exact Array.getElem_setIfInBounds_ne h2 hi
theorem putAll_start {a:Act} {xs:Nat→Value}:∀ {D:List (Nat × Tmp)},(∀ p∈D,xs p.1=a.tmps.getD p.2 undef)→putAll a xs D=a
  | [],_=>rfl
  | q :: D,h=>by
    show(putAll a xs D).put _ _=a
    rw[putAll_start fun p hp=>h p (List.mem_cons_of_mem _ hp),h q (List.mem_cons_self ..),put_same]
def topoB (md:Region.Mode) (ops:Array Oper):List Nat→List (Nat × Tmp)→Bool
  | _,[]=>true
  | seen,p :: D=>(match ops[p.1]? with | some o=>(o.after.all fun e=>!Region.binds md e||seen.contains e.on)&&o.dst==some p.2 | none=>false)&&topoB md ops (p.1 :: seen) D
def optB (md:Region.Mode) (ops:Array Oper) (E:List Nat) (o:Nat):Bool:=
  match ops[o]? with
  | none=>false
  | some oi=>(oi.after.all fun e=>!Region.binds md e||E.contains e.on)&&(List.range ops.size).all fun j=>E.contains j||j==o||Region.waitsFor md ops j o||match ops[j]? with
    | some oj=>oi.apart ops oj
    | none=>true
def flowB (md:Region.Mode) (ops:Array Oper) (D:List (Nat × Tmp)) (E:List Nat):Bool:=
  Region.noSelect ops&&topoB md ops [] D&&((List.range ops.size).all fun j=>(D.any fun p=>p.1==j)||E.all fun e=>reachB md ops 5 j e)&&D.all fun p=>E.contains p.1||optB md ops E p.1
def fullL (ops:Array Oper) (D:List (Nat × Tmp)):Array Bool:=((List.range ops.size).map fun j=>D.any fun p=>p.1==j).toArray
def leftN (listed:Array Bool) (D:List (Nat × Tmp)):Nat:=D.countP fun p=>!listed.getD p.1 false
theorem leftN_set {listed:Array Bool} {i:Nat} (hi:i<listed.size) (hl:listed.getD i false=false):∀ {D:List (Nat × Tmp)},(D.map (·.1)).Nodup→(∃ p∈D,p.1=i)→leftN (listed.setIfInBounds i true) D+1=leftN listed D
  | [],_,h=>by obtain⟨_,h,_⟩:=h;cases h
  | q :: D,hn,h=>by
    rw[List.map_cons,List.nodup_cons] at hn;unfold leftN;rw[List.countP_cons,List.countP_cons];by_cases hq:q.1=i
    · have h0:D.countP (fun p=>!(listed.setIfInBounds i true).getD p.1 false)=D.countP (fun p=>!listed.getD p.1 false):=by
        apply List.countP_congr
        intro p hp;rw[getD_set_ne false (fun e=>hn.1 (by rw[hq,e];exact List.mem_map_of_mem hp))]
      rw[h0,hq,hl,show(listed.setIfInBounds i true).getD i false=true by simp[hi]]
      rfl
    · obtain⟨p,hp,he⟩:=h
      have hp':p∈D:=by
        rcases List.mem_cons.1 hp with rfl | hp
        · exact absurd he hq
        · exact hp
      have ih:=leftN_set hi hl hn.2 ⟨p,hp',he⟩;unfold leftN at ih;rw[getD_set_ne false (fun e=>hq e.symm)]
      omega
theorem topo_ready {listed:Array Bool}:∀ {D:List (Nat × Tmp)} {seen:List Nat},topoB md ops seen D=true→(∀ s∈seen,listed.getD s false=true)→(∃ p∈D,listed.getD p.1 false=false) →
    ∃ p∈D,listed.getD p.1 false=false∧∃ o,ops[p.1]?=some o∧∀ e∈o.after,Region.binds md e=true→listed.getD e.on false=true
  | [],_,_,_,h=>by obtain⟨_,h,_⟩:=h;cases h
  | q :: D,seen,ht,hs,h=>by
    unfold topoB at ht;obtain⟨h1,h2⟩:=Bool.and_eq_true_iff.1 ht;by_cases hq:listed.getD q.1 false=true
    · obtain⟨p,hp,hu⟩:=h
      have hp':p∈D:=by
        rcases List.mem_cons.1 hp with rfl | hp
        · rw[hq] at hu;cases hu
        · exact hp
      obtain⟨r,hr,k⟩:=topo_ready h2 (fun s hsn=>by rcases List.mem_cons.1 hsn with rfl | hsn;exact hq;exact hs s hsn) ⟨p,hp',hu⟩
      exact⟨r,List.mem_cons_of_mem _ hr,k⟩
    · refine⟨q,List.mem_cons_self ..,by simpa using hq,?_⟩
      cases ho:ops[q.1]? with
      | none=>rw[ho] at h1;cases h1
      | some o=>
        rw[ho] at h1;obtain⟨h3,-⟩:=Bool.and_eq_true_iff.1 h1;refine⟨o,rfl,fun e he hb=>?_⟩;have h4:=Array.all_eq_true_iff_forall_mem.1 h3 e he;rw[hb] at h4;exact hs _ (by simpa using h4)
theorem topo_dst:∀ {D:List (Nat × Tmp)} {seen:List Nat},topoB md ops seen D=true→∀ p∈D,∃ o,ops[p.1]?=some o∧o.dst=some p.2
  | [],_,_,_,h=>by cases h
  | q :: D,seen,ht,p,hp=>by
    unfold topoB at ht;obtain⟨h1,h2⟩:=Bool.and_eq_true_iff.1 ht;rcases List.mem_cons.1 hp with rfl | hp
    · cases ho:ops[p.1]? with
      | none=>rw[ho] at h1;cases h1
      | some o=>
        rw[ho] at h1;exact⟨o,rfl,by simpa using(Bool.and_eq_true_iff.1 h1).2⟩
    · exact topo_dst h2 p hp
def Fresh (w w':World) (v:Value):Prop:=∃ b,v=.pointer (some ⟨b,0,none⟩)∧w.heap.size≤b∧b<w'.heap.size
structure OnWay (md:Region.Mode) (ops:Array Oper) (D:List (Nat × Tmp)) (N:List Nat) (F:Nat→Value→World→Prop) (a0:Act) (w0:World) (listed:Array Bool) (a:Act) (w:World):Prop where
  ex:∃ xs,a=putAll a0 xs D∧(∀ p∈D,listed.getD p.1 false=true→F p.1 (xs p.1) w) ∧
    (∀ i∈N,listed.getD i false=true→Fresh w0 w (xs i))∧(∀ i∈N,∀ j∈N,i≠j→listed.getD i false=true→listed.getD j false=true→xs i≠xs j)
  below:Below w0.heap.size w0 w
  out:∀ j,(∀ p∈D,p.1≠j)→listed.getD j false=false
  size:listed.size=ops.size
  closed:Closed md ops listed
theorem OnWay.put {D:List (Nat × Tmp)} {N:List Nat} {F:Nat→Value→World→Prop} {a0:Act} {w0:World} {listed:Array Bool} {w w':World} {xs:Nat→Value} {p:Nat × Tmp} {v:Value}
    (h1:(D.map (·.1)).Nodup) (h2:(D.map (·.2)).Nodup) (hF:∀ i v w w',F i v w→Below w.heap.size w w'→F i v w') (hp:p∈D) (hr:p.1∈Region.ready md ops listed)
    (hx:(∀ p∈D,listed.getD p.1 false=true→F p.1 (xs p.1) w)∧(∀ i∈N,listed.getD i false=true→Fresh w0 w (xs i))∧(∀ i∈N,∀ j∈N,i≠j→listed.getD i false=true→listed.getD j false=true→xs i≠xs j))
    (hb:Below w0.heap.size w0 w) (ho:∀ j,(∀ p∈D,p.1≠j)→listed.getD j false=false) (hs:listed.size=ops.size) (hc:Closed md ops listed)
    (hbw:Below w.heap.size w w') (hf:F p.1 v w') (hn:p.1∈N→Fresh w w' v) :
    OnWay md ops D N F a0 w0 (listed.setIfInBounds p.1 true) ((putAll a0 xs D).put (some p.2) v) w':=by
  obtain⟨x1,x2,x3⟩:=hx;have hun:=getD_two (mem_ready.1 hr).1;have old:∀ j,j≠p.1→(listed.setIfInBounds p.1 true).getD j false=listed.getD j false:=fun j hj=>getD_set_ne false hj.symm
  have keepN:∀ {u},Fresh w0 w u→Fresh w0 w' u:=fun⟨b,e,k1,k2⟩=>⟨b,e,k1,Nat.lt_of_lt_of_le k2 hbw.size⟩
  have upN:p.1∈N→Fresh w0 w' v:=fun h=>by obtain⟨b,e,k1,k2⟩:=hn h;exact⟨b,e,Nat.le_trans hb.size k1,k2⟩
  have apN:p.1∈N→∀ {u},Fresh w0 w u→u≠v:=fun h u ⟨b,e,k1,k2⟩ hu=>by
    obtain⟨b',e',k1',k2'⟩:=hn h;rw[e,e'] at hu;injection hu with hu;injection hu with hu;injection hu with hu _ _
    omega
  refine⟨⟨upd xs p.1 v,putAll_put h1 h2 hp,?_,?_,?_⟩,hb.trans (hbw.mono hb.size),?_,by simpa using hs,hc.set hr⟩
  · intro q hq hl
    by_cases e:q.1=p.1
    · rw[e,upd_self];exact hf
    · rw[upd_ne e];rw[old _ e] at hl;exact hF _ _ _ _ (x1 q hq hl) hbw
  · intro i hi hl
    by_cases e:i=p.1
    · rw[e,upd_self];exact upN (e▸hi)
    · rw[upd_ne e];rw[old _ e] at hl;exact keepN (x2 i hi hl)
  · intro i hi j hj hne hli hlj
    by_cases e:i=p.1
    · have e':j≠p.1:=fun h=>hne (e.trans h.symm)
      rw[old _ e'] at hlj;rw[e,upd_self,upd_ne e'];exact(apN (e▸hi) (x2 j hj hlj)).symm
    · rw[old _ e] at hli
      by_cases e':j=p.1
      · rw[e',upd_self,upd_ne e];exact apN (e'▸hj) (x2 i hi hli)
      · rw[old _ e'] at hlj;rw[upd_ne e,upd_ne e'];exact x3 i hi j hj hne hli hlj
  · intro j hj
    rw[getD_set_ne false (fun e=>hj p hp e)];exact ho j hj
theorem full_of {D:List (Nat × Tmp)} {listed:Array Bool} (h:∀ p∈D,listed.getD p.1 false=true) (ho:∀ j,(∀ p∈D,p.1≠j)→listed.getD j false=false) (hs:listed.size=ops.size):listed=fullL ops D:=by
  apply Array.ext
  · simp[fullL,hs]
  · intro i h1 h2
    have e1:listed[i]=listed.getD i false:=by simp[Array.getD,h1]
    have e2:(fullL ops D)[i]=D.any fun p=>p.1==i:=by simp[fullL]
    rw[e1,e2];by_cases hi:∃ p∈D,p.1=i
    · obtain⟨p,hp,rfl⟩:=hi
      rw[h p hp,eq_comm,List.any_eq_true];exact⟨p,hp,by simp⟩
    · rw[ho i fun p hp e=>hi ⟨p,hp,e⟩,eq_comm,List.any_eq_false]
      intro p hp e;exact hi ⟨p,hp,by simpa using e⟩
theorem flow_any {D:List (Nat × Tmp)} {E N:List Nat} {F:Nat→Value→World→Prop} {a0:Act} {w0:World} {f0:Nat}
    (h1:(D.map (·.1)).Nodup) (h2:(D.map (·.2)).Nodup) (hB:flowB md ops D E=true) (hN:∀ i∈N,∃ p∈D,p.1=i)
    (hQ:∀ c a (d:Tmp) v w,Q (.panic c) (a.put (some d) v) w→Q (.panic c) a w)
    (hF:∀ i v w w',F i v w→Below w.heap.size w w'→F i v w')
    (hop:∀ p∈D,∀ xs w,Below w0.heap.size w0 w→(∀ q∈D,Region.waitsFor md ops p.1 q.1=true→F q.1 (xs q.1) w) →
      wpOp P ops Q p.1 (fun a' w'=>∃ v,a'=(putAll a0 xs D).put (some p.2) v∧Below w.heap.size w w'∧F p.1 v w'∧(p.1∈N→Fresh w w' v)) (putAll a0 xs D) w)
    (hopt:∀ p∈D,p.1∉E→p.1∉N∧∀ xs w,Below w0.heap.size w0 w→(∀ q∈D,Region.waitsFor md ops p.1 q.1=true→F q.1 (xs q.1) w)→∃ o v,ops[p.1]?=some o∧Yields P ops o v (putAll a0 xs D)∧F p.1 v w)
    (hfin:∀ xs w,Below w0.heap.size w0 w→(∀ p∈D,F p.1 (xs p.1) w)→(∀ i∈N,Fresh w0 w (xs i))→(∀ i∈N,∀ j∈N,i≠j→xs i≠xs j)→wpAny P md ops Q f0 (fullL ops D) (putAll a0 xs D) w) :
    ∀ (m:Nat) (listed:Array Bool) (a:Act) (w:World),leftN listed D=m→OnWay md ops D N F a0 w0 listed a w→wpAny P md ops Q (f0+m) listed a w:=by
  obtain⟨hB,hO⟩:=Bool.and_eq_true_iff.1 hB;obtain⟨hB,hL⟩:=Bool.and_eq_true_iff.1 hB;obtain⟨hS,hT⟩:=Bool.and_eq_true_iff.1 hB;intro m
  induction m with
  | zero=>
    intro listed a w hm hw;obtain⟨⟨xs,rfl,x1,x2,x3⟩,hb,ho,hs,hc⟩:=hw;have hall:∀ p∈D,listed.getD p.1 false=true:=fun p hp=>by
      have h0:=List.countP_eq_zero.1 hm p hp
      simpa using h0
    have hN':∀ i∈N,listed.getD i false=true:=fun i hi=>by obtain⟨p,hp,rfl⟩:=hN i hi;exact hall p hp
    rw[full_of hall ho hs];exact hfin xs w hb (fun p hp=>x1 p hp (hall p hp)) (fun i hi=>x2 i hi (hN' i hi)) (fun i hi j hj hne=>x3 i hi j hj hne (hN' i hi) (hN' j hj))
  | succ m ih=>
    intro listed a w hm hw;obtain⟨⟨xs,rfl,hx⟩,hb,ho,hs,hc⟩:=hw;have hex:∃ p∈D,listed.getD p.1 false=false:=by
      have h0:0<leftN listed D:=by omega
      obtain⟨p,hp,h⟩:=List.countP_pos_iff.1 h0;exact⟨p,hp,by simpa using h⟩
    have size_of:∀ {p:Nat × Tmp},p∈D→p.1<listed.size:=fun {p} hp=>by
      obtain⟨o,ho',-⟩:=topo_dst hT p hp;obtain⟨h,-⟩:=Array.getElem?_eq_some_iff.1 ho';rw[hs];exact h
    have untrue:∀ {i:Nat},i<listed.size→listed.getD i false=false→listed.getD i true=false:=fun {i} hi h=>by
      simp[hi] at h ⊢;exact h
    have deps:∀ {p:Nat × Tmp},p.1∈Region.ready md ops listed→∀ q∈D,Region.waitsFor md ops p.1 q.1=true→F q.1 (xs q.1) w:=fun {p} hr q hq hwt=>by
      obtain⟨-,oj,hoj,hall⟩:=mem_ready.1 hr;obtain⟨oj',hoj',e,he,hbd,hon⟩:=Region.waitsFor_spec hwt;rw[hoj] at hoj';injection hoj' with hoj';subst hoj'
      exact hx.1 q hq (hon▸hall e he hbd)
    by_cases hE:∀ e∈E,listed.getD e false=true
    · obtain⟨p,hp,hu⟩:=hex
      have hpE:p.1∉E:=fun h=>by rw[hE _ h] at hu;cases hu
      have hob:optB md ops E p.1=true:=by
        have h0:=List.all_eq_true.1 hO p hp;rcases Bool.or_eq_true_iff.1 h0 with h0 | h0
        · exact absurd (by simpa using h0) hpE
        · exact h0
      obtain⟨hpN,hopt⟩:=hopt p hp hpE;obtain⟨oi,hoi,hdst⟩:=topo_dst hT p hp;unfold optB at hob;rw[hoi] at hob;obtain⟨ha,hj⟩:=Bool.and_eq_true_iff.1 hob;have hr:p.1∈Region.ready md ops listed:=mem_ready.2 ⟨untrue (size_of hp) hu,oi,hoi,fun e he hbd=>by
        have h4:=Array.all_eq_true_iff_forall_mem.1 ha e he;rw[hbd] at h4;exact hE _ (by simpa using h4)⟩
      obtain⟨o,v,ho1,hy,hf⟩:=hopt xs w hb (deps hr);rw[hoi] at ho1;injection ho1 with ho1;subst ho1
      refine wpAny_first hoi (Region.noSelect_spec hS) (fun c a w h=>hQ c a p.2 v w (hdst▸h)) (f0+m) listed _ w ?_ hr hy ?_
      · intro j oj hoj hne hun hno
        obtain⟨hjs,-⟩:=Array.getElem?_eq_some_iff.1 hoj;have h5:=List.all_eq_true.1 hj j (List.mem_range.2 hjs);rw[hoj] at h5;rcases Bool.or_eq_true_iff.1 h5 with h5 | h5
        · rcases Bool.or_eq_true_iff.1 h5 with h5 | h5
          · rcases Bool.or_eq_true_iff.1 h5 with h5 | h5
            · have:=hE j (by simpa using h5)
              rw[getD_two hun] at this;cases this
            · exact absurd (by simpa using h5) hne
          · obtain⟨oj',hoj',e,he,hbd,hon⟩:=Region.waitsFor_spec h5
            rw[hoj] at hoj';injection hoj' with hoj';subst hoj'
            exact absurd hon (hno e he hbd)
        · exact h5
      · refine ih _ _ _ ?_ (hdst▸OnWay.put h1 h2 hF hp hr hx hb ho hs hc (Below.refl _ _) hf (fun h=>absurd h hpN))
        have:=leftN_set (size_of hp) hu h1 ⟨p,hp,rfl⟩
        omega
    · show wpAny P md ops Q (f0+m+1) listed _ w
      refine⟨fun h0=>?_,fun i hi=>?_⟩
      · obtain⟨p,hp,hu,o,ho1,hall⟩:=topo_ready hT (fun _ h=>by cases h) hex
        have hr:p.1∈Region.ready md ops listed:=mem_ready.2 ⟨untrue (size_of hp) hu,o,ho1,hall⟩;rw[h0] at hr;cases hr
      · have hD:∃ p∈D,p.1=i:=by
          refine Classical.byContradiction fun hno=>hE fun e he=>?_
          obtain⟨hjun,oj,hoj,hall⟩:=mem_ready.1 hi;obtain⟨hjs,-⟩:=Array.getElem?_eq_some_iff.1 hoj;have h5:=List.all_eq_true.1 hL i (List.mem_range.2 hjs);rcases Bool.or_eq_true_iff.1 h5 with h5 | h5
          · obtain⟨p,hp,h6⟩:=List.any_eq_true.1 h5
            exact absurd ⟨p,hp,by simpa using h6⟩ hno
          · exact hc.reach 5 i (List.all_eq_true.1 h5 e he) fun oj' ho' e he hb=>by
              rw[hoj] at ho';injection ho' with ho';subst ho'
              exact hall e he hb
        obtain⟨p,hp,rfl⟩:=hD;refine wpOp_mono (fun a' w' h=>?_) (hop p hp xs w hb (deps hi));obtain⟨v,rfl,hbw,hf,hn⟩:=h;refine ih _ _ _ ?_ (OnWay.put h1 h2 hF hp hi hx hb ho hs hc hbw hf hn);have:=leftN_set (size_of hp) (getD_two (mem_ready.1 hi).1) h1 ⟨p,hp,rfl⟩
        omega
theorem Flow.start {id:Nat} {D:List (Nat × Tmp)} {a0:Act} {w:World} (E N:List Nat) (F:Nat→Value→World→Prop) (f0:Nat) (hm:P.follows .mixedOrders=true) (hf0:f0+D.length=ops.size)
    (h1:(D.map (·.1)).Nodup) (h2:(D.map (·.2)).Nodup) (hB:flowB .any ops D E=true) (hN:∀ i∈N,∃ p∈D,p.1=i)
    (hQ:∀ c a (d:Tmp) v w,Q (.panic c) (a.put (some d) v) w→Q (.panic c) a w)
    (hF:∀ i v w w',F i v w→Below w.heap.size w w'→F i v w')
    (hop:∀ p∈D,∀ xs w',Below w.heap.size w w'→(∀ q∈D,Region.waitsFor .any ops p.1 q.1=true→F q.1 (xs q.1) w') →
      wpOp P ops Q p.1 (fun a' w''=>∃ v,a'=(putAll a0 xs D).put (some p.2) v∧Below w'.heap.size w' w''∧F p.1 v w''∧(p.1∈N→Fresh w' w'' v)) (putAll a0 xs D) w')
    (hopt:∀ p∈D,p.1∉E→p.1∉N∧∀ xs w',Below w.heap.size w w'→(∀ q∈D,Region.waitsFor .any ops p.1 q.1=true→F q.1 (xs q.1) w')→∃ o v,ops[p.1]?=some o∧Yields P ops o v (putAll a0 xs D)∧F p.1 v w')
    (hfin:∀ xs w',Below w.heap.size w w'→(∀ p∈D,F p.1 (xs p.1) w')→(∀ i∈N,Fresh w w' (xs i))→(∀ i∈N,∀ j∈N,i≠j→xs i≠xs j)→Early P .any ops Q (fun _=>True) 0 f0 (fullL ops D) (putAll a0 xs D) w') :
    (Code.region id ops true).wp P Q a0 w:=by
  have hd:∀ {w':World},Below w.drew.heap.size w.drew w'→Below w.heap.size w w':=fun h=>⟨h.os,h.tape,h.output,h.size,h.block⟩
  refine wp_region_any hm ?_;rw[← hf0];obtain⟨xs,hxs⟩:=xs_start (fun t=>a0.tmps.getD t undef) h1;have hnone:∀ j,(Array.replicate (f0+D.length) false).getD j false=false:=fun j=>by simp[Array.getD]
  refine flow_any (w0:=w.drew) (f0:=f0) h1 h2 hB hN hQ hF (fun p hp xs w' hb=>hop p hp xs w' (hd hb)) (fun p hp hE=>⟨(hopt p hp hE).1,fun xs w' hb=>(hopt p hp hE).2 xs w' (hd hb)⟩)
    (fun xs w' hb k1 k2 k3=>Early.any _ _ _ _ (hfin xs w' (hd hb) k1 k2 k3)) D.length _ a0 w.drew ?_ ⟨⟨xs,(putAll_start hxs).symm,fun p _ h=>?_,fun i _ h=>?_,fun i _ j _ _ h=>?_⟩,Below.refl _ _,fun j _=>hnone j,by rw[Array.size_replicate,hf0],fun j oj _ h=>?_⟩
  · unfold leftN
    rw[List.countP_eq_length];intro p _;rw[hnone];rfl
  all_goals (rw[hnone] at h;cases h)
structure FOp where
  i:Nat
  d:Tmp
  F:Value→World→Prop
def fpairs (L:List FOp):List (Nat × Tmp):=L.map fun o=>(o.i,o.d)
def flowC (md:Region.Mode) (ops:Array Oper) (D:List (Nat × Tmp)) (E N:List Nat) (f0:Nat):Bool:=
  decide (D.map (·.1)).Nodup&&decide (D.map (·.2)).Nodup&&flowB md ops D E&&(N.all fun i=>D.any fun p=>p.1==i)&&f0+D.length==ops.size&&E.all fun i=>D.any fun p=>p.1==i
theorem all_cons {α:Type} {P:α→Prop} {a:α} {l:List α} (h:P a) (hl:∀ o∈l,P o):∀ o∈a :: l,P o:=fun o ho=>by
  rcases List.mem_cons.1 ho with rfl | ho
  · exact h
  · exact hl o ho
theorem all_nil {α:Type} {P:α→Prop}:∀ o∈([]:List α),P o:=fun _ h=>by cases h
theorem fop_inj:∀ {L:List FOp},((fpairs L).map (·.1)).Nodup→∀ {o o'},o∈L→o'∈L→o.i=o'.i→o=o'
  | [],_,_,_,h,_,_=>by cases h
  | q :: L,hn,o,o',h,h',e=>by
    have hn':((fpairs L).map (·.1)).Nodup∧∀ r∈L,r.i≠q.i:=by
      unfold fpairs at hn ⊢;rw[List.map_cons,List.map_cons,List.nodup_cons] at hn;refine⟨hn.2,fun r hr e=>hn.1 ?_⟩
      show q.i∈_
      rw[← e];exact List.mem_map.2 ⟨(r.i,r.d),List.mem_map.2 ⟨r,hr,rfl⟩,rfl⟩
    rcases List.mem_cons.1 h with k | k
    · rcases List.mem_cons.1 h' with k' | k'
      · rw[k,k']
      · exact absurd (by rw[← e,k]) (hn'.2 o' k')
    · rcases List.mem_cons.1 h' with k' | k'
      · exact absurd (by rw[e,k']) (hn'.2 o k)
      · exact fop_inj hn'.1 k k' e
theorem Flow.run {id:Nat} {a0:Act} {w:World} (L1 L2:List FOp) (N:List Nat) (f0:Nat) (hm:P.follows .mixedOrders=true)
    (hC:flowC .any ops (fpairs (L1++L2)) (L1.map (·.i)) N f0=true) (hNo:(L2.all fun o=>!N.contains o.i)=true)
    (hQ:∀ c a (d:Tmp) v w,Q (.panic c) (a.put (some d) v) w→Q (.panic c) a w)
    (hF:∀ o∈L1++L2,∀ v w w',o.F v w→Below w.heap.size w w'→o.F v w')
    (hop:∀ o∈L1,∀ xs w',Below w.heap.size w w'→(∀ q∈L1++L2,Region.waitsFor .any ops o.i q.i=true→q.F (xs q.i) w') →
      wpOp P ops Q o.i (fun a' w''=>∃ v,a'=(putAll a0 xs (fpairs (L1++L2))).put (some o.d) v∧Below w'.heap.size w' w''∧o.F v w''∧(N.contains o.i=true→Fresh w' w'' v)) (putAll a0 xs (fpairs (L1++L2))) w')
    (hopt:∀ o∈L2,∀ xs w',Below w.heap.size w w'→(∀ q∈L1++L2,Region.waitsFor .any ops o.i q.i=true→q.F (xs q.i) w')→∃ op v,ops[o.i]?=some op∧Yields P ops op v (putAll a0 xs (fpairs (L1++L2)))∧o.F v w')
    (hfin:∀ xs w',Below w.heap.size w w'→(∀ o∈L1++L2,o.F (xs o.i) w')→(∀ i∈N,Fresh w w' (xs i))→(∀ i∈N,∀ j∈N,i≠j→xs i≠xs j) →
      Early P .any ops Q (fun _=>True) 0 f0 (fullL ops (fpairs (L1++L2))) (putAll a0 xs (fpairs (L1++L2))) w') :
    (Code.region id ops true).wp P Q a0 w:=by
  unfold flowC at hC;simp only[Bool.and_eq_true] at hC
  obtain⟨⟨⟨⟨⟨h1,h2⟩,hB⟩,hN⟩,hf0⟩,-⟩:=hC;replace h1:=of_decide_eq_true h1;replace h2:=of_decide_eq_true h2;have inD:∀ p∈fpairs (L1++L2),∃ o∈L1++L2,p=(o.i,o.d):=fun p hp=>by
    obtain⟨o,ho,rfl⟩:=List.mem_map.1 hp;exact⟨o,ho,rfl⟩
  have toD:∀ o∈L1++L2,(o.i,o.d)∈fpairs (L1++L2):=fun o ho=>List.mem_map.2 ⟨o,ho,rfl⟩
  have one:∀ {o:FOp},o∈L1++L2→∀ {v w},o.F v w→∀ q∈L1++L2,q.i=o.i→q.F v w:=fun {o} ho {v w} h q hq e=>by
    obtain rfl:=fop_inj h1 hq ho e;exact h
  have notN:∀ o∈L2,o.i∉N:=fun o ho h=>by
    have:=List.all_eq_true.1 hNo o ho;simp[h] at this
  have deps:∀ (i:Nat) (xs:Nat→Value) (w':World),(∀ q∈fpairs (L1++L2),Region.waitsFor .any ops i q.1=true→∀ o∈L1++L2,o.i=q.1→o.F (xs q.1) w')→∀ q∈L1++L2,Region.waitsFor .any ops i q.i=true→q.F (xs q.i) w':=
    fun i xs w' h q hq hw=>h (q.i,q.d) (toD q hq) hw q hq rfl
  refine Flow.start (D:=fpairs (L1++L2)) (L1.map (·.i)) N (fun i v w=>∀ o∈L1++L2,o.i=i→o.F v w) f0 hm (by simpa using hf0) h1 h2 hB (fun i hi=>?_) hQ (fun i v w w' h hb o ho e=>hF o ho v w w' (h o ho e) hb) ?_ ?_ ?_
  · obtain⟨p,hp,e⟩:=List.any_eq_true.1 (List.all_eq_true.1 hN i hi)
    exact⟨p,hp,by simpa using e⟩
  · intro p hp xs w' hb hd
    obtain⟨o,ho,rfl⟩:=inD p hp;rcases List.mem_append.1 ho with ho1 | ho2
    · refine wpOp_mono (fun a' w'' h=>?_) (hop o ho1 xs w' hb (deps _ _ _ hd))
      obtain⟨v,e,hbw,hf,hn⟩:=h;exact⟨v,e,hbw,one ho hf,fun h=>hn (by simpa using h)⟩
    · obtain⟨op,v,h3,hy,hf⟩:=hopt o ho2 xs w' hb (deps _ _ _ hd)
      refine hy.wpOp h3 ⟨v,?_,Below.refl _ _,one ho hf,fun h=>absurd h (notN o ho2)⟩;obtain⟨hT,hO⟩:=Bool.and_eq_true_iff.1 (Bool.and_eq_true_iff.1 (Bool.and_eq_true_iff.1 hB).1).1;obtain⟨o',ho',hd'⟩:=topo_dst hO _ hp;rw[h3] at ho';injection ho' with ho';subst ho'
      rw[hd']
  · intro p hp hE
    obtain⟨o,ho,rfl⟩:=inD p hp;rcases List.mem_append.1 ho with ho1 | ho2
    · exact absurd (List.mem_map_of_mem ho1) hE
    · refine⟨notN o ho2,fun xs w' hb hd=>?_⟩
      obtain⟨op,v,h3,hy,hf⟩:=hopt o ho2 xs w' hb (deps _ _ _ hd);exact⟨op,v,h3,hy,one ho hf⟩
  · intro xs w' hb k1 k2 k3
    exact hfin xs w' hb (fun o ho=>k1 (o.i,o.d) (toD o ho) o ho rfl) k2 k3
end
end Go.Proofs.YtngpibfakemmhaaGreatDoor
